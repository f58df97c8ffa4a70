import PyProof.Rows.All
import Wide.All
import OpenK.AllK
import Wide.FinOn
import KE.KStateDown
import KE.DatumOrd
import HandS.ForMost
import HandS.Exc
import HandS.Defaults
import HandS.Evl
import HandS.TupSets
import HandS.SortInts
import HandS.Conv
import HandS.Wide
import HandS.IsInst
import HandS.TupAny
import HandS.TupLe
import HandS.Style
import HandS.Walk
import HandS.Head0
import HandS.Head1
import HandS.Head2
import HandS.HeadEnd
import HandS.HeadHook1
import HandS.HeadHook2
import PySem.Challenge.RW_noshortring_k65_whole_doubles_and_folds
section
set_option Elab.async false
set_option linter.all false
set_option maxRecDepth 100000
set_option maxHeartbeats 4000000
namespace Nsr
open PySem PySem.Spec PyProof.Rows L2
def topS (i : Nat) : Stmt := PySem.Challenge.pw_noshortring_k65_whole_doubles_and_folds.main.body.getD i (.Pass ⟨0, 0, 0, 0⟩)
abbrev x_is_whole : Stmt := topS 6
abbrev x_is_upto : Stmt := topS 7
abbrev x_web_with : Stmt := topS 8
abbrev x_is_place : Stmt := topS 9
abbrev x_check_place : Stmt := topS 10
abbrev x_nears_of : Stmt := topS 11
abbrev x_near_of : Stmt := topS 12
abbrev x_fars : Stmt := topS 13
abbrev x_pieces_of : Stmt := topS 14
abbrev x_even_by : Stmt := topS 15
abbrev x_ring_through : Stmt := topS 16
abbrev x_shortest : Stmt := topS 17
abbrev x_names_good : Stmt := topS 18
abbrev x_named_by : Stmt := topS 19
abbrev x_renamed : Stmt := topS 20
abbrev x_sides_by : Stmt := topS 23
abbrev x_are_unlike : Stmt := topS 24
abbrev x_sides_of : Stmt := topS 25
abbrev x_sides_good : Stmt := topS 26
abbrev x_double_by : Stmt := topS 27
abbrev x_doubled : Stmt := topS 28
abbrev x_doubled_ring : Stmt := topS 29
abbrev x_place_goes : Stmt := topS 30
abbrev x_fold_good : Stmt := topS 31
abbrev x_may_go : Stmt := topS 32
abbrev x_fold_from : Stmt := topS 33
abbrev x_first_fold : Stmt := topS 34
abbrev x_law_cell_at : Stmt := topS 36
abbrev x_law_next : Stmt := topS 37
abbrev x_law_pen_of : Stmt := topS 38
abbrev x_law_draw : Stmt := topS 39
abbrev x_law_named : Stmt := topS 40
abbrev x_law_names_by : Stmt := topS 41
abbrev x_law_turned : Stmt := topS 42
abbrev x_law_shape : Stmt := topS 43
abbrev x_law_web_by : Stmt := topS 44
abbrev x_law_double_right : Stmt := topS 45
abbrev x_law_folds_right : Stmt := topS 46
abbrev x_law : Stmt := topS 47
end Nsr
end
section
set_option Elab.async false
set_option linter.all false
set_option maxRecDepth 100000
set_option maxHeartbeats 4000000
namespace Nsr
open PySem PySem.Spec PyProof.Rows L2

/-! ### defs of the text and callees -/
structure Free (mg : Str → Option Value) : Prop where
  isinstance : mg "isinstance" = none
  tuple : mg "tuple" = none
  int : mg "int" = none
  bool : mg "bool" = none
  len : mg "len" = none
  min : mg "min" = none
  max : mg "max" = none
  sorted : mg "sorted" = none
  set : mg "set" = none
  all : mg "all" = none
  range : mg "range" = none
  list : mg "list" = none

structure DefAt (K : PySem.W.Frag) (mg : Str → Option Value) (x : Str) (st : Stmt) (ps : List Str) : Prop where
  ex : ∃ (f : Addr) (fd : FuncData), FunD K x x (defArgs st) (defBody st) (defScope st) [] [] f fd ∧ mg x = some (.ref f) ∧ Binds K fd ps []

structure Cal (P : Program) (w : World) (K : PySem.W.Frag) (mg : Str → Option Value) (base : Heap) (k : Nat) (x : Str) (ps : List Str) (sp : Sp) : Prop where
  ex : ∃ (f : Addr) (fd : FuncData), FnOk P w K mg base CX0 k f fd ps sp ∧ mg x = some (.ref f) ∧ PySem.W.keepIn K (.ref f) = true ∧ Binds K fd ps []

section
variable {P : Program} {w : World} {K : PySem.W.Frag} {mg : Str → Option Value} {base : Heap}
theorem DefAt.ok {x : Str} {st : Stmt} {N ps : List Str} {k : Nat} {sp : Sp} (D : DefAt K mg x st ps) (S : FnScope N ps (defScope st)) (len : ∀ vs H Q E, sp vs H Q E → vs.length = ps.length)
    (hbody : ∀ (f : Addr) (cdv : Value) (A : Around) (outer : List Env) (s : Shared) (H : Hp) (vs : List V) (Q : VK) (E : XK), Room k (A.deeper (envOfC x (defScope st) s.heap.objs.size f cdv)) → sp vs H Q E →
      ∃ t, PSs (cxOf CX0 P w K mg base N x (defScope st) f cdv A outer s H E).nox (defBody st) t ∧ t { nx := fun _ H' => Q .non H', rt := Q } (start N vs) H) : Cal P w K mg base (k + 1) x ps sp := by
  obtain ⟨f, fd, F, g, b⟩ := D.ex
  refine ⟨f, fd, F.ok S len fun cdv A outer s H vs Q E hr h => ?_, g, F.kp, b⟩
  obtain ⟨t, h1, h2⟩ := hbody f cdv A outer s H vs Q E hr h
  exact ⟨t, PSs.nox h1, h2⟩
theorem Cal.mono {k j : Nat} {x : Str} {ps : List Str} {sp sp' : Sp} (C : Cal P w K mg base k x ps sp) (h : ∀ vs H Q E, sp' vs H Q E → sp vs H Q E) : Cal P w K mg base k x ps sp' := by
  obtain ⟨f, fd, F, g, b⟩ := C.ex
  exact ⟨f, fd, ⟨fun vs H Q E q => F.1 vs H Q E (h vs H Q E q), fun A outer s H args us vs Q E a1 a2 a3 a4 a5 => F.2 A outer s H args us vs Q E a1 a2 a3 a4 (h vs H Q E a5)⟩, g, b⟩
end
section
variable {X : Cx}
theorem pe_cal {k k0 : Nat} {x : Str} {ps : List Str} {sp : Sp} {e : Expr} {es : List Expr} {t : TA} {p pos : Pos} (C : Cal X.prog X.w X.K X.mg X.base k x ps sp) (hr : Room k0 X.A) (hk : k ≤ k0) (hg : Gl X x)
    (ha : PA X (e :: es) t) (hdb : (x == ("__debug__" : Str)) = false := by decide) (he : starEach (e :: es) X.env = (false, eval e X.env) :: starEach es X.env := by rfl) (hpl : (backTo pos (starEach es X.env)).any (·.1) = false := by rfl) :
    PE X (.Call (.Name x p) (e :: es) [] pos) (tCall sp [] E0 t) := by
  obtain ⟨f, fd, F, g, kp, b⟩ := C.ex
  exact pe_call F (hr.mono hk) hg g kp b .nil pass0 ha hdb he hpl
end

/-! ### rules of my own -/
section
variable {X : Cx}
/-- min(t), max(t) of a tuple of two ints -/
def rMinT (K : PySem.W.Frag) : List V → Hp → VK → Prop := fun vs H Q => ∃ (a : Addr) (i j : Int), vs = [V.ref a] ∧ SqT K H a [.int i, .int j] ∧ Q (.int (min i j)) H
def rMaxT (K : PySem.W.Frag) : List V → Hp → VK → Prop := fun vs H Q => ∃ (a : Addr) (i j : Int), vs = [V.ref a] ∧ SqT K H a [.int i, .int j] ∧ Q (.int (max i j)) H
theorem alike2 (i j : Int) : PySem.W.AlikeAll [.int i, .int j] := by
  refine ⟨fun x hx y hy => ?_, fun x hx => ?_⟩
  · simp only [List.mem_cons, List.not_mem_nil, or_false] at hx hy
    rcases hx with rfl | rfl <;> rcases hy with rfl | rfl <;> rfl
  · simp only [List.mem_cons, List.not_mem_nil, or_false] at hx
    rcases hx with rfl | rfl <;> (intro q; cases q)
theorem cr_minT (hc : X.calm = true) (hu : X.A.units + 64 < cLine) : CallR X (.builtin "min") (rMinT X.K) := by
  intro pins s σ H vs us Q I r h
  obtain ⟨a, i, j, rfl, hs, q⟩ := h
  obtain ⟨its, rv, hl, _⟩ := I.tuple hs
  rw [Vals.ref1 r]
  obtain ⟨as, rd⟩ := Dp.readsAll I [.int i, .int j] [.int i, .int j] its (.cons (.int i) (.cons (.int j) .nil)) rv
  refine PySem.W.min_tuple_data (I.ok.hd hc) hl (x := .int i) (xs := [.int j]) (as := as) rd (alike2 i j) ?_ fun k v h' tk bs hv rdv hk => ?_
  · have e : PyData.depthAll [.int i, .int j] ≤ 1 := by simp [PyData.depthAll, PyData.depth]
    omega
  · have e : PySem.W.minD (.int i) [.int j] = .int (min i j) := PySem.W.minD_ints i [j]
    rw [e] at rdv
    cases rdv
    exact ⟨.int (min i j), H, I.kept hk, ⟨_, rfl⟩, q⟩
theorem cr_maxT (hc : X.calm = true) (hu : X.A.units + 64 < cLine) : CallR X (.builtin "max") (rMaxT X.K) := by
  intro pins s σ H vs us Q I r h
  obtain ⟨a, i, j, rfl, hs, q⟩ := h
  obtain ⟨its, rv, hl, _⟩ := I.tuple hs
  rw [Vals.ref1 r]
  obtain ⟨as, rd⟩ := Dp.readsAll I [.int i, .int j] [.int i, .int j] its (.cons (.int i) (.cons (.int j) .nil)) rv
  refine PySem.W.max_tuple_data (I.ok.hd hc) hl (x := .int i) (xs := [.int j]) (as := as) rd (alike2 i j) ?_ fun k v h' tk bs hv rdv hk => ?_
  · have e : PyData.depthAll [.int i, .int j] ≤ 1 := by simp [PyData.depthAll, PyData.depth]
    omega
  · have e : PySem.W.maxD (.int i) [.int j] = .int (max i j) := PySem.W.maxD_ints i [j]
    rw [e] at rdv
    cases rdv
    exact ⟨.int (max i j), H, I.kept hk, ⟨_, rfl⟩, q⟩

/-- len(set(xs)), xs a list of ints -/
def distinct (ns : List Int) : Nat := (firstMet (fun i => ns.getD i 0) ns.length).length
def tLenSetG (K : PySem.W.Frag) (ta : TE) : TE := fun σ H Q => ta σ H fun x H1 => ∃ (l : Addr) (ns : List Int), x = V.ref l ∧ SqL K H1 l (ns.map V.int) ∧ ns.length < 64 ∧ Q (.int (distinct ns)) H1
theorem pe_lenSetG {a : Expr} {ta : TE} {p p2 q pos : Pos} (hc : X.calm = true) (hg : Gl X "len") (hm : X.mg "len" = none) (hg2 : Gl X "set") (hm2 : X.mg "set" = none) (ha : PE X a ta)
    (na : starEach [a] X.env = (false, eval a X.env) :: starEach [] X.env := by rfl) : PE X (.Call (.Name "len" p) [.Call (.Name "set" p2) [a] [] q] [] pos) (tLenSetG X.K ta) := by
  refine ⟨fun pins s σ H Q I h => ?_⟩
  refine Call_ (ld_blt I hg hm PySem.boot_len ?_)
  refine PyProof.Rows.callWith_builtin1 (PyProof.Rows.args_cons ?_ rfl) rfl rfl
  refine Call_ (ld_blt I hg2 hm2 PyProof.Rows.boot_set ?_)
  refine PyProof.Rows.callWith_type1 (PyProof.Rows.args_cons (thn (ha.run pins s σ H _ I h) fun v s1 ⟨x, H1, I1, r1, q1⟩ => PyProof.Rows.args_nil ?_) na) na rfl
  obtain ⟨l, ns, rfl, hq, h1, q1⟩ := q1
  cases r1
  obtain ⟨its, r, pl, hz⟩ := I1.list hq
  have hl : its.toArray.size = ns.length := by rw [List.size_toArray, ← r.length, List.length_map]
  refine call_set_list (I1.ok.hd hc) pl.isList (ns := ns) (by simpa using r.ints) (by unfold scanBound; omega) fun h' tk hS hk => ?_
  rw [hl] at hS
  refine PyProof.Rows.args_nil ?_
  obtain ⟨o, es, ep, t, ho, hex, hd, _, _, _, hf, hn⟩ := hS
  have I2 : Inv X pins σ H1 { s1 with heap := h', toks := tk } := I1.kept fun b o e => hk b o (Heap.lt_size e) e
  have le : distinct ns ≤ ns.length := firstMet_length_le _ _
  have hn' : es.size = distinct ns := hn
  refine call_len_set ho hex hd hf (by rw [hn'] <;> omega) ⟨.int (distinct ns), H1, I2.tok _, ⟨_, by rw [hn']⟩, q1⟩
end

section
variable {prog : Program} {w : World} {A : Around} {E : Value → Shared → Prop} {s : Shared}
theorem collect_tup {l : Addr} {vs : List Value} {Q : List Value → Shared → Prop} (hl : IsTup s.heap l vs.toArray)
    (h : Q vs { s with heap := (s.heap.push (seqObj "list" #[] 0)).update s.heap.objs.size (Obj.mapSeq (· ++ vs.toArray)) }) (hsz : vs.length ≤ sizeLine) :
    wpAny (model prog w) A (collect (.ref l)) Q E s := by
  obtain ⟨o, ho, hc, n, hd⟩ := id hl
  unfold collect
  refine wpAny_bind (wpAny_runValue (codeAny_builtin entry_proto_collect' ?_))
  show wpAny _ _ (do again (.builtin "list.__iadd__" ⟨[← newList [], .ref l], []⟩)) _ _ s
  refine wpAny_bind (wpAny_newList (wpAny_pure ⟨Code.quiet_builtin _ (by decide +kernel), codeAny_builtin entry_list_iadd' ?_⟩))
  show wpAny _ _ (Builtin.List.listExtendWith (.ref s.heap.objs.size) (.ref l) (.ref s.heap.objs.size)) _ _ { s with heap := s.heap.push (seqObj "list" #[] 0) }
  unfold Builtin.List.listExtendWith
  have ho' : (s.heap.push (seqObj "list" #[] 0)).get? l = some o := Heap.get?_push_of_some _ ho
  refine wpAny_bind (wpAny_typeOf (T := "tuple") ⟨o, ho', hc⟩ ?_)
  have ht : (Value.type "tuple" == Value.type "tuple") = true := by rfl
  rw [if_pos (by rw [ht]; simp)]
  refine wpAny_bind (listItems_at ho' hd ?_)
  refine wpAny_bind (listItems_at (xs := #[]) (n := 0) (Heap.get?_push_size _ rfl) rfl ?_)
  rw [if_neg (by simp)]
  refine wpAny_bind (listUpdate_at (xs := #[]) (n := 0) (Heap.get?_push_size _ rfl) rfl ?_ (Nat.zero_le _) (by show (#[] ++ vs.toArray).size ≤ sizeLine + 1; simp only [Array.size_append, List.size_toArray, List.length_nil]; omega))
  refine wpAny_pure ?_
  show wpAny (model prog w) A (do
      let o ← load s.heap.objs.size
      match o.data with
      | .seq xs _ => pure xs.toList
      | _ => unsupported "internal:collect") Q E { s with heap := (s.heap.push (seqObj "list" #[] 0)).update s.heap.objs.size (Obj.mapSeq (· ++ vs.toArray)) }
  refine wpAny_bind (wpAny_load (get?_update_seq (Heap.get?_push_size _ rfl) _) ?_)
  show wpAny _ _ (pure ((#[] : Array Value) ++ vs.toArray).toList) Q E _
  rw [show ((#[] : Array Value) ++ vs.toArray).toList = vs by simp]
  exact wpAny_pure h
theorem sorted_intsT {l : Addr} {vs : List Value} {ns : List Int} {Q : Value → Shared → Prop} (hl : IsTup s.heap l vs.toArray) (hI : IntsAre vs ns) (h64 : vs.length < 64)
    (h : ∀ (out : Array Value) (ns' : List Int), IntsAre out.toList ns' → ns'.Perm ns → ns'.Pairwise (· ≤ ·) → Q (.ref (s.heap.objs.size + 1)) { s with heap := sortedAll s.heap vs out }) :
    wpAny (model prog w) A (call (.builtin "sorted") [.ref l]) Q E s := by
  refine Calls.call_function_entry kind_sorted plain_sorted entry_sorted (args_sorted1 _) ?_
  unfold Builtin.«sorted»
  refine wpAny_bind (m := checkCount "sorted" 1 1 _) (wpAny_pure ?_)
  refine wpAny_bind (collect_tup hl ?_ (by rw [sizeLine_eq]; omega))
  refine wpAny_bind (wpAny_newList ?_ (by rw [sizeLine_eq]; omega))
  have hsz : ((s.heap.push (seqObj "list" #[] 0)).update s.heap.objs.size (Obj.mapSeq (· ++ vs.toArray))).objs.size = s.heap.objs.size + 1 := by
    rw [Heap.size_update, size_push']
  have hoL : (((s.heap.push (seqObj "list" #[] 0)).update s.heap.objs.size (Obj.mapSeq (· ++ vs.toArray))).push (seqObj "list" vs.toArray 0)).get? (s.heap.objs.size + 1) = some (seqObj "list" vs.toArray 0) := by
    rw [← hsz]; exact Heap.get?_push_size _ rfl
  show wpAny _ _ _ _ _ { s with heap := ((s.heap.push (seqObj "list" #[] 0)).update s.heap.objs.size (Obj.mapSeq (· ++ vs.toArray))).push (seqObj "list" vs.toArray 0) }
  rw [hsz]
  refine wpAny_bind (wpAny_holding (wpAny_call_entry slot_list_sort ⟨_, hoL, rfl⟩ entry_list_sort (list_sort_tree hoL hI h64 fun out ns' a1 a2 a3 => ⟨_, rfl, ?_⟩) (args_list_sort _)))
  exact wpAny_pure ⟨_, rfl, h out ns' a1 a2 a3⟩
end
section
variable {X : Cx}
def rSortedTu (K : PySem.W.Frag) : List V → Hp → VK → Prop := fun vs H Q => ∃ (a : Addr) (ns : List Int), vs = [V.ref a] ∧ SqT K H a (ns.map V.int) ∧ ns.length < 64 ∧
  ∀ (ns' : List Int) (p : Addr), ns'.Perm ns → ns'.Pairwise (· ≤ ·) → H p = none → Q (.ref p) (upd H p (.lst (ns'.map V.int)))
theorem cr_sortedTu : CallR X (.builtin "sorted") (rSortedTu X.K) := by
  intro pins s σ H vs us Q I r h
  obtain ⟨a, ns, rfl, hs, h64, q⟩ := h
  obtain ⟨its, rv, hl, _⟩ := I.tuple hs
  rw [Vals.ref1 r]
  have hi := rv.ints
  refine sorted_intsT hl hi (by rw [hi.length]; exact h64) fun out ns' h1 h2 h3 => ?_
  obtain ⟨ep, he'⟩ := PyProof.Rows.sortedAll_at s.heap its out
  have hlen : (ns'.map V.int).length ≤ sizeLine := by rw [List.length_map, h2.length_eq]; exact small64 h64
  exact ⟨.ref _, upd H (s.heap.objs.size + 1) (.lst (ns'.map V.int)), I.laid (t' := s.toks) (fun _ _ => PyProof.Rows.sortedAll_old) (Nat.le_succ _) ⟨hlen, out.toList, ep, vals_of_ints h1, he'⟩, rfl, q ns' _ h2 h3 (I.hok.fresh (Nat.le_succ _))⟩
/-! the rules that name the written part, by a name of its own -/
theorem ix_tupK {K : PySem.W.Frag} (h : X.K = K) : IxR X (rIxT K) := by
  subst h
  exact ix_tup
theorem ix_listK {K : PySem.W.Frag} (h : X.K = K) : IxR X (rIxL K) := by
  subst h
  exact ix_list
theorem len_seqK {K : PySem.W.Frag} (h : X.K = K) : CallR X (.builtin "len") (Evl.rLenS K) := by
  subst h
  exact call_len_seq
theorem sortedK {K : PySem.W.Frag} (h : X.K = K) : CallR X (.builtin "sorted") (rSorted K) := by
  subst h
  exact cr_sorted
theorem minTK {K : PySem.W.Frag} (h : X.K = K) (hc : X.calm = true) (hu : X.A.units + 64 < cLine) : CallR X (.builtin "min") (rMinT K) := by
  subst h
  exact cr_minT hc hu
theorem maxTK {K : PySem.W.Frag} (h : X.K = K) (hc : X.calm = true) (hu : X.A.units + 64 < cLine) : CallR X (.builtin "max") (rMaxT K) := by
  subst h
  exact cr_maxT hc hu
theorem neDK {K : PySem.W.Frag} (h : X.K = K) (hu : X.A.units + 64 < cLine) : OpR X (compareOp .NotEq) (rNeD K) := by
  subst h
  exact op_neD hu
theorem eqDK {K : PySem.W.Frag} (h : X.K = K) (hu : X.A.units + 64 < cLine) : OpR X (compareOp .Eq) (rEqD K) := by
  subst h
  exact op_eqD hu
theorem pe_bmK {K : PySem.W.Frag} {T : String} {name : Str} {r : V → List V → Hp → VK → Prop} {o e : Expr} {es : List Expr} {apos cpos : Pos} {to : TE} {t : TA} (hK : X.K = K)
    (h : PE X (.Call (.Attribute o name apos) (e :: es) [] cpos) (tBM X.K T r to t)) : PE X (.Call (.Attribute o name apos) (e :: es) [] cpos) (tBM K T r to t) := by
  subst hK
  exact h
theorem pg_tupK {K : PySem.W.Frag} {es : List Expr} {k : Nat} {t : TGs} {n : Nat} {pos : Pos} (hK : X.K = K) (h : PG X (.Tuple es k pos) (gTup X.K n t)) : PG X (.Tuple es k pos) (gTup K n t) := by
  subst hK
  exact h
theorem pi_tupK {K : PySem.W.Frag} {tg l : Expr} {tl : TE} (hK : X.K = K) (h : PE X l tl) : PI X tg l (iTup K tl) := by
  subst hK
  exact pi_tup h
theorem pi_listK {K : PySem.W.Frag} {tg l : Expr} {tl : TE} (hK : X.K = K) (h : PE X l tl) : PI X tg l (iList K tl) := by
  subst hK
  exact pi_list h
end
end Nsr
end
section
set_option Elab.async false
set_option linter.all false
set_option maxRecDepth 100000
set_option maxHeartbeats 1000000
set_option autoImplicit false
/-! plain mathematics: webs, walks, distances, rings, sides, folds -/
namespace Nsr
abbrev Es := List (Nat × Nat)
def adj (E : Es) (u v : Nat) : Bool := decide ((u, v) ∈ E) || decide ((v, u) ∈ E)
theorem adj_iff {E : Es} {u v : Nat} : adj E u v = true ↔ (u, v) ∈ E ∨ (v, u) ∈ E := by
  unfold adj
  rw [Bool.or_eq_true, decide_eq_true_eq, decide_eq_true_eq]
theorem adj_symm {E : Es} {u v : Nat} (h : adj E u v = true) : adj E v u = true := adj_iff.mpr (Or.comm.mp (adj_iff.mp h))
theorem adj_comm (E : Es) (u v : Nat) : adj E u v = adj E v u := by
  unfold adj
  rw [Bool.or_comm]
structure Good (n : Nat) (E : Es) : Prop where
  lt : ∀ e ∈ E, e.1 < e.2 ∧ e.2 < n
  nd : E.Nodup
theorem Good.adj_lt {n : Nat} {E : Es} (g : Good n E) {u v : Nat} (h : adj E u v = true) : u < n ∧ v < n ∧ u ≠ v := by
  rcases adj_iff.mp h with h | h
  · have a := g.lt _ h
    exact ⟨Nat.lt_trans a.1 a.2, a.2, Nat.ne_of_lt a.1⟩
  · have a := g.lt _ h
    exact ⟨a.2, Nat.lt_trans a.1 a.2, (Nat.ne_of_lt a.1).symm⟩

/-! ### walks -/
inductive Wk (E : Es) (s : Nat) : Nat → Nat → Prop where
  | nil : Wk E s s 0
  | snoc {v w k : Nat} : Wk E s v k → adj E v w = true → Wk E s w (k + 1)
theorem Wk.cons {E : Es} {s t v k : Nat} (a : adj E s t = true) (h : Wk E t v k) : Wk E s v (k + 1) := by
  induction h with
  | nil => exact .snoc .nil a
  | snoc _ b ih => exact .snoc ih b
theorem Wk.symm {E : Es} {s v k : Nat} (h : Wk E s v k) : Wk E v s k := by
  induction h with
  | nil => exact .nil
  | snoc _ b ih => exact .cons (adj_symm b) ih
theorem Wk.trans {E : Es} {s t v j k : Nat} (h : Wk E s t j) (h2 : Wk E t v k) : Wk E s v (j + k) := by
  induction h2 with
  | nil => exact h
  | snoc _ b ih => exact .snoc ih b
theorem Wk.mono {E F : Es} {s v k : Nat} (h : Wk E s v k) (hs : ∀ u w, adj E u w = true → adj F u w = true) : Wk F s v k := by
  induction h with
  | nil => exact .nil
  | snoc _ b ih => exact .snoc ih (hs _ _ b)
theorem Wk.path {E : Es} {s v k : Nat} (h : Wk E s v k) : ∃ p : Nat → Nat, p 0 = s ∧ p k = v ∧ ∀ i, i < k → adj E (p i) (p (i + 1)) = true := by
  induction h with
  | nil => exact ⟨fun _ => s, rfl, rfl, fun i hi => absurd hi (Nat.not_lt_zero i)⟩
  | @snoc v w k _ b ih =>
    obtain ⟨p, h0, h1, h2⟩ := ih
    refine ⟨fun i => if i ≤ k then p i else w, ?_, ?_, fun i hi => ?_⟩
    · simp [h0]
    · show (if k + 1 ≤ k then p (k + 1) else w) = w
      rw [if_neg (by omega)]
    · show adj E (if i ≤ k then p i else w) (if i + 1 ≤ k then p (i + 1) else w) = true
      by_cases c : i < k
      · rw [if_pos (Nat.le_of_lt c), if_pos (show i + 1 ≤ k from c)]
        exact h2 i c
      · have e : i = k := by omega
        subst e
        rw [if_pos (Nat.le_refl _), if_neg (by omega), h1]
        exact b
theorem Wk.of_path {E : Es} (p : Nat → Nat) (i : Nat) : ∀ k : Nat, (∀ j, i ≤ j → j < i + k → adj E (p j) (p (j + 1)) = true) → Wk E (p i) (p (i + k)) k
  | 0, _ => .nil
  | k + 1, h => .snoc (Wk.of_path p i k fun j a b => h j a (by omega)) (h (i + k) (by omega) (by omega))

/-! ### distances -/
open Classical in
noncomputable def dist (E : Es) (s v : Nat) : Option Nat := if h : ∃ k, Wk E s v k ∧ ∀ j, j < k → ¬ Wk E s v j then some h.choose else none
theorem least_of {p : Nat → Prop} : ∀ n, p n → ∃ k, k ≤ n ∧ p k ∧ ∀ j, j < k → ¬ p j := by
  intro n
  induction n using Nat.strongRecOn with
  | ind n ih =>
    intro h
    rcases Classical.em (∃ k', k' < n ∧ p k') with ⟨k', h1, h2⟩ | c
    · obtain ⟨k, a, b, d⟩ := ih k' h1 h2
      exact ⟨k, Nat.le_trans a (Nat.le_of_lt h1), b, d⟩
    · exact ⟨n, Nat.le_refl _, h, fun k' hk hp => c ⟨k', hk, hp⟩⟩
theorem dist_spec {E : Es} {s v k : Nat} (h : dist E s v = some k) : Wk E s v k ∧ ∀ j, j < k → ¬ Wk E s v j := by
  unfold dist at h
  split at h
  · rename_i q
    have e : q.choose = k := Option.some.inj h
    rw [← e]
    exact q.choose_spec
  · cases h
theorem dist_le {E : Es} {s v k : Nat} (h : Wk E s v k) : ∃ j, j ≤ k ∧ dist E s v = some j := by
  obtain ⟨j, a, b, c⟩ := least_of (p := Wk E s v) k h
  refine ⟨j, a, ?_⟩
  unfold dist
  have q : ∃ k, Wk E s v k ∧ ∀ j, j < k → ¬ Wk E s v j := ⟨j, b, c⟩
  rw [dif_pos q]
  have sp := q.choose_spec
  rcases Nat.lt_trichotomy q.choose j with l | l | l
  · exact absurd sp.1 (c _ l)
  · rw [l]
  · exact absurd b (sp.2 _ l)
theorem dist_eq {E : Es} {s v k : Nat} (h : Wk E s v k) (m : ∀ j, j < k → ¬ Wk E s v j) : dist E s v = some k := by
  obtain ⟨j, a, b⟩ := dist_le h
  have c := dist_spec b
  rcases Nat.lt_or_ge j k with l | l
  · exact absurd c.1 (m j l)
  · rw [b, Nat.le_antisymm a l]
theorem dist_none {E : Es} {s v : Nat} : dist E s v = none ↔ ∀ k, ¬ Wk E s v k := by
  constructor
  · intro h k w
    obtain ⟨j, _, b⟩ := dist_le w
    rw [h] at b
    cases b
  · intro h
    cases e : dist E s v with
    | none => rfl
    | some k => exact absurd (dist_spec e).1 (h k)
theorem dist_isSome {E : Es} {s v : Nat} : (dist E s v).isSome = true ↔ ∃ k, Wk E s v k := by
  constructor
  · intro h
    obtain ⟨k, e⟩ := Option.isSome_iff_exists.mp h
    exact ⟨k, (dist_spec e).1⟩
  · intro ⟨k, h⟩
    obtain ⟨j, _, b⟩ := dist_le h
    rw [b]
    rfl
theorem dist_self (E : Es) (s : Nat) : dist E s s = some 0 := dist_eq .nil fun j h => absurd h (Nat.not_lt_zero j)

/-! ### the search by rows -/
/-- F by place; row, at -/
structure Bfs (E : Es) (s : Nat) (F : Nat → Option Nat) (row : List Nat) (at_ : Nat) : Prop where
  nd : row.Nodup
  start : F s = some 0
  row0 : s ∈ row
  iff : ∀ v : Nat, (F v).isSome = true ↔ v ∈ row
  sound : ∀ v k : Nat, F v = some k → Wk E s v k
  mono : ∀ i j v w a b : Nat, i ≤ j → row[i]? = some v → row[j]? = some w → F v = some a → F w = some b → a ≤ b
  span : ∀ v w a b : Nat, row[at_]? = some v → F v = some a → w ∈ row → F w = some b → b ≤ a + 1
  closed : ∀ i v a w : Nat, i < at_ → row[i]? = some v → F v = some a → adj E v w = true → ∃ b, F w = some b ∧ b ≤ a + 1
/-- within a row: of the neighbours of row[at] those in done are found -/
structure BfsIn (E : Es) (s : Nat) (F : Nat → Option Nat) (row : List Nat) (at_ : Nat) (v : Nat) (a : Nat) (done : List Nat) : Prop extends Bfs E s F row at_ where
  here : row[at_]? = some v
  val : F v = some a
  found : ∀ w ∈ done, ∃ b : Nat, F w = some b ∧ b ≤ a + 1
theorem Bfs.init (E : Es) (s : Nat) : Bfs E s (fun v => if v = s then some 0 else none) [s] 0 where
  nd := by simp
  start := if_pos rfl
  row0 := List.mem_cons_self
  iff := fun v => by
    by_cases c : v = s
    · simp [c]
    · simp [c]
  sound := fun v k h => by
    by_cases c : v = s
    · rw [if_pos c] at h
      cases h
      rw [c]
      exact .nil
    · rw [if_neg c] at h
      cases h
  mono := fun i j v w a b _ h1 h2 h3 h4 => by
    have hw : w = s := by
      have := List.mem_of_getElem? h2
      simpa using this
    have hv : v = s := by
      have := List.mem_of_getElem? h1
      simpa using this
    rw [if_pos hv] at h3
    rw [if_pos hw] at h4
    cases h3
    cases h4
    exact Nat.le_refl _
  span := fun v w a b _ _ h3 h4 => by
    have hw : w = s := by simpa using h3
    rw [if_pos hw] at h4
    cases h4
    omega
  closed := fun i _ _ _ h => absurd h (Nat.not_lt_zero i)
theorem Bfs.enter {E : Es} {s : Nat} {F : Nat → Option Nat} {row : List Nat} {at_ v : Nat} (h : Bfs E s F row at_) (hv : row[at_]? = some v) : ∃ a, BfsIn E s F row at_ v a [] := by
  have q := (h.iff v).mpr (List.mem_of_getElem? hv)
  obtain ⟨a, e⟩ := Option.isSome_iff_exists.mp q
  exact ⟨a, h, hv, e, fun w hw => by cases hw⟩
theorem BfsIn.old {E : Es} {s : Nat} {F : Nat → Option Nat} {row : List Nat} {at_ v a w b : Nat} {done : List Nat} (h : BfsIn E s F row at_ v a done) (hw : F w = some b) : BfsIn E s F row at_ v a (done ++ [w]) :=
  ⟨h.toBfs, h.here, h.val, fun x hx => by
    rcases List.mem_append.mp hx with hx | hx
    · exact h.found x hx
    · have e : x = w := by simpa using hx
      rw [e]
      exact ⟨b, hw, h.span v w a b h.here h.val ((h.iff w).mp (by rw [hw]; rfl)) hw⟩⟩
theorem BfsIn.new {E : Es} {s : Nat} {F : Nat → Option Nat} {row : List Nat} {at_ v a w : Nat} {done : List Nat} (h : BfsIn E s F row at_ v a done) (hw : F w = none) (hadj : adj E v w = true) :
    BfsIn E s (fun x => if x = w then some (a + 1) else F x) (row ++ [w]) at_ v a (done ++ [w]) := by
  have nw : w ∉ row := fun q => by
    have := (h.iff w).mpr q
    rw [hw] at this
    cases this
  have keep : ∀ x b, F x = some b → (if x = w then some (a + 1) else F x) = some b := fun x b e => by
    have ne : x ≠ w := fun q => by
      rw [q, hw] at e
      cases e
    rw [if_neg ne]
    exact e
  have hlt : at_ < row.length := (List.getElem?_eq_some_iff.mp h.here).1
  have hi' : ∀ i : Nat, i < row.length → (row ++ [w])[i]? = row[i]? := fun i hi => List.getElem?_append_left hi
  have back : ∀ (i x b : Nat), (row ++ [w])[i]? = some x → (if x = w then some (a + 1) else F x) = some b → (row[i]? = some x ∧ F x = some b) ∨ (i = row.length ∧ x = w ∧ b = a + 1) := by
    intro i x b h1 h2
    rcases Nat.lt_or_ge i row.length with l | l
    · rw [hi' i l] at h1
      have ne : x ≠ w := fun q => nw (q ▸ List.mem_of_getElem? h1)
      rw [if_neg ne] at h2
      exact .inl ⟨h1, h2⟩
    · have hl := (List.getElem?_eq_some_iff.mp h1).1
      rw [List.length_append, List.length_singleton] at hl
      have e : i = row.length := by omega
      rw [e, List.getElem?_append_right (Nat.le_refl _)] at h1
      have ex : w = x := by simpa using h1
      rw [if_pos ex.symm] at h2
      cases h2
      exact .inr ⟨e, ex.symm, rfl⟩
  refine { nd := ?_, start := keep s 0 h.start, row0 := List.mem_append_left _ h.row0, iff := fun x => ?_, sound := fun x k e => ?_, mono := ?_, span := ?_, closed := ?_, here := by rw [hi' _ hlt]; exact h.here, val := keep v a h.val, found := ?_ }
  · rw [List.nodup_append]
    refine ⟨h.nd, by simp, fun x hx y hy e => ?_⟩
    have : y = w := by simpa using hy
    rw [e, this] at hx
    exact nw hx
  · by_cases c : x = w
    · simp [c]
    · simp [c, h.iff x]
  · by_cases c : x = w
    · rw [if_pos c] at e
      cases e
      rw [c]
      exact .snoc (h.sound v a h.val) hadj
    · rw [if_neg c] at e
      exact h.sound x k e
  · intro i j x y b c hij hx hy hb hc
    rcases back i x b hx hb with ⟨x1, b1⟩ | ⟨x1, x2, x3⟩ <;> rcases back j y c hy hc with ⟨y1, c1⟩ | ⟨y1, y2, y3⟩
    · exact h.mono i j x y b c hij x1 y1 b1 c1
    · rw [y3]
      exact h.span v x a b h.here h.val (List.mem_of_getElem? x1) b1
    · have := (List.getElem?_eq_some_iff.mp y1).1
      omega
    · omega
  · intro x y b c hx hb hy hc
    rw [hi' _ hlt, h.here] at hx
    have ev : v = x := Option.some.inj hx
    have eb : b = a := by
      rw [← ev, keep v a h.val] at hb
      exact (Option.some.inj hb).symm
    rw [eb]
    by_cases cy : y = w
    · rw [if_pos cy] at hc
      cases hc
      exact Nat.le_refl _
    · rw [if_neg cy] at hc
      have hy' : y ∈ row := by
        rcases List.mem_append.mp hy with q | q
        · exact q
        · exact absurd (by simpa using q) cy
      exact h.span v y a c h.here h.val hy' hc
  · intro i x b y hi hx hb had
    rcases back i x b hx hb with ⟨x1, b1⟩ | ⟨x1, _, _⟩
    · obtain ⟨c, q, l⟩ := h.closed i x b y hi x1 b1 had
      exact ⟨c, keep y c q, l⟩
    · omega
  · intro x hx
    rcases List.mem_append.mp hx with q | q
    · obtain ⟨c, e, l⟩ := h.found x q
      exact ⟨c, keep x c e, l⟩
    · have e : x = w := by simpa using q
      rw [e]
      exact ⟨a + 1, if_pos rfl, Nat.le_refl _⟩
theorem BfsIn.leave {E : Es} {s : Nat} {F : Nat → Option Nat} {row : List Nat} {at_ v a : Nat} {done : List Nat} (h : BfsIn E s F row at_ v a done) (all : ∀ w, adj E v w = true → w ∈ done) : Bfs E s F row (at_ + 1) :=
  { h.toBfs with
    span := fun x y b c hx hb hy hc => by
      have l1 := h.span v y a c h.here h.val hy hc
      have l2 := h.mono at_ (at_ + 1) v x a b (Nat.le_succ _) h.here hx h.val hb
      omega
    closed := fun i x b y hi hx hb had => by
      rcases Nat.lt_or_ge i at_ with l | l
      · exact h.closed i x b y l hx hb had
      · have e : i = at_ := by omega
        rw [e, h.here] at hx
        have ev : v = x := Option.some.inj hx
        rw [← ev, h.val] at hb
        cases hb
        rw [← ev] at had
        exact h.found y (all y had) }
theorem Bfs.done {E : Es} {s : Nat} {F : Nat → Option Nat} {row : List Nat} {at_ : Nat} (h : Bfs E s F row at_) (hl : row.length ≤ at_) (v : Nat) : F v = dist E s v := by
  have cl : ∀ x a w, F x = some a → adj E x w = true → ∃ b, F w = some b ∧ b ≤ a + 1 := fun x a w hx had => by
    have hm := (h.iff x).mp (by rw [hx]; rfl)
    obtain ⟨i, hi, e⟩ := List.getElem_of_mem hm
    exact h.closed i x a w (by omega) (by rw [List.getElem?_eq_getElem hi, e]) hx had
  have reach : ∀ {w k}, Wk E s w k → ∃ b, F w = some b ∧ b ≤ k := by
    intro w k q
    induction q with
    | nil => exact ⟨0, h.start, Nat.le_refl _⟩
    | snoc _ b ih =>
      obtain ⟨c, e, l⟩ := ih
      obtain ⟨d, e2, l2⟩ := cl _ c _ e b
      exact ⟨d, e2, by omega⟩
  cases e : F v with
  | none =>
    refine (dist_none.mpr fun k q => ?_).symm
    obtain ⟨b, e2, _⟩ := reach q
    rw [e] at e2
    cases e2
  | some k =>
    refine (dist_eq (h.sound v k e) fun j hj q => ?_).symm
    obtain ⟨b, e2, l⟩ := reach q
    rw [e] at e2
    cases e2
    omega
theorem Bfs.lt {E : Es} {n s : Nat} {F : Nat → Option Nat} {row : List Nat} {at_ : Nat} (h : Bfs E s F row at_) (g : Good n E) (hs : s < n) : ∀ v ∈ row, v < n := fun v hv => by
  obtain ⟨k, e⟩ := Option.isSome_iff_exists.mp ((h.iff v).mpr hv)
  have w := h.sound v k e
  cases w with
  | nil => exact hs
  | snoc _ b => exact (g.adj_lt b).2.1
theorem nodup_le {n : Nat} {l : List Nat} (hn : l.Nodup) (h : ∀ v ∈ l, v < n) : l.length ≤ n := by
  have key : ∀ (l D : List Nat), l.Nodup → (∀ x ∈ l, x ∈ D) → l.length ≤ D.length := by
    intro l
    induction l with
    | nil => intro D _ _; exact Nat.zero_le _
    | cons x l ih =>
      intro D hn hs
      obtain ⟨h1, h2⟩ := List.nodup_cons.mp hn
      have hx : x ∈ D := hs x List.mem_cons_self
      have q := ih (D.erase x) h2 fun y hy => (List.mem_erase_of_ne (fun (e : y = x) => h1 (e ▸ hy))).2 (hs y (List.mem_cons_of_mem _ hy))
      have e := List.length_erase_of_mem hx
      have hp : 0 < D.length := List.length_pos_of_mem hx
      rw [List.length_cons]
      omega
  have q := key l (List.range n) hn fun x hx => List.mem_range.mpr (h x hx)
  rw [List.length_range] at q
  exact q
end Nsr
end
section
set_option Elab.async false
set_option linter.all false
set_option maxRecDepth 100000
set_option maxHeartbeats 1000000
set_option autoImplicit false
namespace Nsr
/-! ### rings -/
def without (E : Es) (t : Nat × Nat) : Es := E.filter fun e => !decide (e = t)
noncomputable def ringT (E : Es) (t : Nat × Nat) : Option Nat := (dist (without E t) t.1 t.2).map (· + 1)
noncomputable def ringL (E : Es) : List Nat := E.filterMap (ringT E)
noncomputable def girth (E : Es) : Option Nat := (ringL E).min?
theorem without_adj {E : Es} {t : Nat × Nat} {u v : Nat} : adj (without E t) u v = true ↔ ((u, v) ∈ E ∧ (u, v) ≠ t) ∨ ((v, u) ∈ E ∧ (v, u) ≠ t) := by
  rw [adj_iff]
  unfold without
  simp [List.mem_filter]
theorem without_sub {E : Es} {t : Nat × Nat} {u v : Nat} (h : adj (without E t) u v = true) : adj E u v = true := by
  rcases without_adj.mp h with q | q
  · exact adj_iff.mpr (.inl q.1)
  · exact adj_iff.mpr (.inr q.1)
theorem without_good {n : Nat} {E : Es} (g : Good n E) (t : Nat × Nat) : Good n (without E t) :=
  ⟨fun e he => g.lt e (List.mem_filter.mp he).1, g.nd.filter _⟩
theorem girth_none {E : Es} : girth E = none ↔ ringL E = [] := by
  unfold girth
  exact List.min?_eq_none_iff
theorem girth_some {E : Es} {s : Nat} (h : girth E = some s) : s ∈ ringL E ∧ ∀ x ∈ ringL E, s ≤ x := by
  unfold girth at h
  exact List.min?_eq_some_iff.mp h
theorem girth_of {E : Es} {s : Nat} (h : s ∈ ringL E) (m : ∀ x ∈ ringL E, s ≤ x) : girth E = some s := by
  unfold girth
  exact List.min?_eq_some_iff.mpr ⟨h, m⟩
theorem ring_mem {E : Es} {s : Nat} : s ∈ ringL E ↔ ∃ t ∈ E, ∃ k, dist (without E t) t.1 t.2 = some k ∧ s = k + 1 := by
  unfold ringL
  rw [List.mem_filterMap]
  constructor
  · intro ⟨t, ht, e⟩
    unfold ringT at e
    obtain ⟨k, e1, e2⟩ := Option.map_eq_some_iff.mp e
    exact ⟨t, ht, k, e1, e2.symm⟩
  · intro ⟨t, ht, k, e1, e2⟩
    refine ⟨t, ht, ?_⟩
    unfold ringT
    rw [e1, e2]
    rfl
/-- a walk about a tie bounds the shortest ring -/
theorem girth_le {E : Es} {t : Nat × Nat} {L : Nat} (ht : t ∈ E) (h : Wk (without E t) t.1 t.2 L) : ∃ s, s ≤ L + 1 ∧ girth E = some s := by
  obtain ⟨j, l, e⟩ := dist_le h
  have m : j + 1 ∈ ringL E := ring_mem.mpr ⟨t, ht, j, e, rfl⟩
  cases q : girth E with
  | none =>
    rw [girth_none.mp q] at m
    cases m
  | some s =>
    have := (girth_some q).2 _ m
    exact ⟨s, by omega, rfl⟩
/-- a map of webs, one to one about each place -/
structure Cover (n : Nat) (E F : Es) (f : Nat → Nat) : Prop where
  hom : ∀ u v, u < n → v < n → adj E u v = true → adj F (f u) (f v) = true
  inj : ∀ u v w, u < n → v < n → w < n → adj E u v = true → adj E u w = true → f v = f w → v = w
/-- a closed row of places that never turns back holds a ring -/
theorem ring_of_row {n : Nat} {F : Es} (g : Good n F) (q : Nat → Nat) (L : Nat) (hL : 0 < L) (hq : q (L + 1) = q 0) (ha : ∀ i, i < L + 1 → adj F (q i) (q (i + 1)) = true) (hn : ∀ i, i + 2 ≤ L + 1 → q i ≠ q (i + 2)) :
    ∃ s, s ≤ L + 1 ∧ girth F = some s := by
  obtain ⟨d, dl, ⟨i, hi, d0, e⟩, least⟩ := least_of (p := fun d => ∃ i, i + d ≤ L + 1 ∧ 0 < d ∧ q i = q (i + d)) (L + 1) ⟨0, by omega, by omega, by rw [Nat.zero_add]; exact hq.symm⟩
  have d1 : d ≠ 1 := fun z => by
    subst z
    exact (g.adj_lt (ha i (by omega))).2.2 e
  have d2 : d ≠ 2 := fun z => by
    subst z
    exact hn i hi e
  have dis : ∀ x y, i ≤ x → x < y → y < i + d → q x ≠ q y := fun x y h1 h2 h3 h4 => least (y - x) (by omega) ⟨x, by omega, by omega, by rw [show x + (y - x) = y by omega]; exact h4⟩
  -- the closing tie
  have hc := ha (i + d - 1) (by omega)
  rw [show i + d - 1 + 1 = i + d by omega, ← e] at hc
  have step : ∀ t : Nat × Nat, (t = (q i, q (i + d - 1)) ∨ t = (q (i + d - 1), q i)) → ∀ j, i ≤ j → j < i + (d - 1) → adj (without F t) (q j) (q (j + 1)) = true := by
    intro t ht j h1 h2
    have aj := ha j (by omega)
    have n1 : ¬ (q j = q i ∧ q (j + 1) = q (i + d - 1)) := fun ⟨a, b⟩ => by
      by_cases c : j = i
      · subst c
        exact dis (j + 1) (j + d - 1) (by omega) (by omega) (by omega) b
      · exact dis i j (Nat.le_refl _) (by omega) (by omega) a.symm
    have n2 : ¬ (q j = q (i + d - 1) ∧ q (j + 1) = q i) := fun ⟨a, b⟩ => dis i (j + 1) (Nat.le_refl _) (by omega) (by omega) b.symm
    have ne1 : (q j, q (j + 1)) ≠ t := fun z => by
      rcases ht with h | h
      · rw [h] at z
        exact n1 ⟨congrArg Prod.fst z, congrArg Prod.snd z⟩
      · rw [h] at z
        exact n2 ⟨congrArg Prod.fst z, congrArg Prod.snd z⟩
    have ne2 : (q (j + 1), q j) ≠ t := fun z => by
      rcases ht with h | h
      · rw [h] at z
        exact n2 ⟨congrArg Prod.snd z, congrArg Prod.fst z⟩
      · rw [h] at z
        exact n1 ⟨congrArg Prod.snd z, congrArg Prod.fst z⟩
    rcases adj_iff.mp aj with h | h
    · exact without_adj.mpr (.inl ⟨h, ne1⟩)
    · exact without_adj.mpr (.inr ⟨h, ne2⟩)
  have walk : ∀ t : Nat × Nat, (t = (q i, q (i + d - 1)) ∨ t = (q (i + d - 1), q i)) → Wk (without F t) (q i) (q (i + d - 1)) (d - 1) := fun t ht => by
    have w := Wk.of_path (E := without F t) q i (d - 1) fun j a b => step t ht j a b
    rw [show i + (d - 1) = i + d - 1 by omega] at w
    exact w
  rcases adj_iff.mp hc with h | h
  · obtain ⟨s, l, r⟩ := girth_le h (walk _ (.inr rfl)).symm
    exact ⟨s, by omega, r⟩
  · obtain ⟨s, l, r⟩ := girth_le h (walk _ (.inl rfl))
    exact ⟨s, by omega, r⟩
theorem girth_cover {n m : Nat} {E F : Es} {f : Nat → Nat} (g : Good n E) (g2 : Good m F) (c : Cover n E F f) {s : Nat} (h : girth E = some s) : ∃ s', s' ≤ s ∧ girth F = some s' := by
  obtain ⟨t, ht, L, hd, rfl⟩ := ring_mem.mp (girth_some h).1
  obtain ⟨wk, least⟩ := dist_spec hd
  have tl := g.lt t ht
  obtain ⟨p, p0, pL, pa⟩ := wk.path
  have hL : 0 < L := by
    rcases Nat.eq_zero_or_pos L with z | z
    · subst z
      rw [p0] at pL
      omega
    · exact z
  -- the closed row
  let r : Nat → Nat := fun i => if i ≤ L then p i else t.1
  have rl : ∀ i, i ≤ L → r i = p i := fun i hi => if_pos hi
  have rL : r (L + 1) = t.1 := if_neg (by omega)
  have ra : ∀ i, i < L + 1 → adj E (r i) (r (i + 1)) = true := fun i hi => by
    rcases Nat.lt_or_ge i L with l | l
    · rw [rl i (Nat.le_of_lt l), rl (i + 1) l]
      exact without_sub (pa i l)
    · have e : i = L := by omega
      subst e
      rw [rl i (Nat.le_refl _), rL, pL]
      exact adj_iff.mpr (.inr ht)
  have rn : ∀ i, i + 2 ≤ L + 1 → r i ≠ r (i + 2) := fun i hi z => by
    rcases Nat.lt_or_ge (i + 1) L with l | l
    · rw [rl i (by omega), rl (i + 2) (by omega)] at z
      -- a shorter walk
      have w1 := Wk.of_path (E := without E t) p 0 i fun j _ b => pa j (by omega)
      have w2 := Wk.of_path (E := without E t) p (i + 2) (L - (i + 2)) fun j _ b => pa j (by omega)
      rw [Nat.zero_add, p0, z] at w1
      rw [show i + 2 + (L - (i + 2)) = L by omega, pL] at w2
      exact least _ (by omega) (w1.trans w2)
    · have e : i + 1 = L := by omega
      rw [rl i (by omega), show i + 2 = L + 1 by omega, rL] at z
      have a := pa i (by omega)
      rw [e, z, pL] at a
      rcases without_adj.mp a with q | q
      · exact q.2 rfl
      · have := g.lt _ q.1
        omega
  have rlt : ∀ i, i ≤ L + 1 → r i < n := fun i hi => by
    rcases Nat.lt_or_ge i (L + 1) with l | l
    · exact (g.adj_lt (ra i l)).1
    · have e : i = L + 1 := by omega
      rw [e, rL]
      omega
  refine ring_of_row g2 (fun i => f (r i)) L hL ?_ (fun i hi => c.hom _ _ (rlt i (by omega)) (rlt (i + 1) (by omega)) (ra i hi)) fun i hi z => ?_
  · show f (r (L + 1)) = f (r 0)
    rw [rL, rl 0 (Nat.zero_le _), p0]
  · exact rn i hi (c.inj (r (i + 1)) (r i) (r (i + 2)) (rlt _ (by omega)) (rlt _ (by omega)) (rlt _ (by omega)) (adj_symm (ra i (by omega))) (ra (i + 1) (by omega)) z)

/-! ### sides -/
def Col (E : Es) (c : Nat → Bool) : Prop := ∀ u v, adj E u v = true → c u ≠ c v
theorem Col.parity {E : Es} {c : Nat → Bool} (h : Col E c) {s v k : Nat} (w : Wk E s v k) : c v = (c s ^^ decide (k % 2 = 1)) := by
  induction w with
  | nil => simp
  | @snoc v w k _ b ih =>
    have ne := h _ _ b
    rw [ih] at ne
    rcases Nat.mod_two_eq_zero_or_one k with e | e
    · have e2 : (k + 1) % 2 = 1 := by omega
      rw [e] at ne
      rw [e2]
      cases hs : c s <;> cases hw : c w <;> simp_all
    · have e2 : (k + 1) % 2 = 0 := by omega
      rw [e] at ne
      rw [e2]
      cases hs : c s <;> cases hw : c w <;> simp_all
theorem Col.sub {E : Es} {c : Nat → Bool} (h : Col E c) (t : Nat × Nat) : Col (without E t) c := fun u v a => h u v (without_sub a)
theorem Col.even {n : Nat} {E : Es} {c : Nat → Bool} (h : Col E c) {s : Nat} (e : girth E = some s) : s % 2 = 0 := by
  obtain ⟨t, ht, L, hd, rfl⟩ := ring_mem.mp (girth_some e).1
  have p := (h.sub t).parity (dist_spec hd).1
  have ne := h t.1 t.2 (adj_iff.mpr (.inl ht))
  rcases Nat.mod_two_eq_zero_or_one L with z | z
  · rw [z] at p
    rw [p] at ne
    simp at ne
  · omega
/-- the least place that reaches a place -/
noncomputable def root (n : Nat) (E : Es) (v : Nat) : Nat := ((List.range n).find? fun u => (dist E u v).isSome).getD 0
noncomputable def side (n : Nat) (E : Es) (v : Nat) : Nat := (dist E (root n E v) v).getD 0 % 2
noncomputable def unlikeB (E : Es) (c : Nat → Nat) : Bool := E.all fun e => !decide (c e.1 = c e.2)
theorem root_spec {n : Nat} {E : Es} {v : Nat} (hv : v < n) : root n E v < n ∧ (dist E (root n E v) v).isSome = true ∧ ∀ u, u < root n E v → (dist E u v).isSome = false := by
  unfold root
  cases e : (List.range n).find? fun u => (dist E u v).isSome with
  | none =>
    have := List.find?_eq_none.mp e v (List.mem_range.mpr hv)
    rw [dist_self] at this
    exact absurd rfl this
  | some r =>
    obtain ⟨h1, as, bs, h2, h3⟩ := List.find?_eq_some_iff_append.mp e
    have hm : r ∈ List.range n := by
      rw [h2]
      simp
    refine ⟨List.mem_range.mp hm, h1, fun u hu => ?_⟩
    have hlen : as.length = r := by
      have g : (List.range n)[as.length]? = some r := by
        rw [h2]
        simp
      obtain ⟨hl, g2⟩ := List.getElem?_eq_some_iff.mp g
      rw [List.getElem_range] at g2
      exact g2
    have hu2 : u ∈ as := by
      have g : (List.range n)[u]? = some u := by
        rw [List.getElem?_range]
        exact Nat.lt_trans hu (List.mem_range.mp hm)
      have hu' : u < r := hu
      rw [h2, List.getElem?_append_left (by omega)] at g
      exact List.mem_of_getElem? g
    have := h3 u hu2
    simpa using this
theorem reach_same {E : Es} {u v : Nat} (h : adj E u v = true) (x : Nat) : (dist E x u).isSome = (dist E x v).isSome := by
  rw [Bool.eq_iff_iff, dist_isSome, dist_isSome]
  exact ⟨fun ⟨k, w⟩ => ⟨k + 1, .snoc w h⟩, fun ⟨k, w⟩ => ⟨k + 1, .snoc w (adj_symm h)⟩⟩
theorem root_same {n : Nat} {E : Es} {u v : Nat} (h : adj E u v = true) : root n E u = root n E v := by
  unfold root
  have e : (fun x => (dist E x u).isSome) = fun x => (dist E x v).isSome := funext fun x => reach_same h x
  rw [e]
theorem unlike_of_col {n : Nat} {E : Es} {c : Nat → Bool} (g : Good n E) (h : Col E c) : unlikeB E (side n E) = true := by
  refine List.all_eq_true.mpr fun e he => ?_
  have a : adj E e.1 e.2 = true := adj_iff.mpr (.inl he)
  obtain ⟨l1, l2, _⟩ := g.adj_lt a
  have r := root_same (n := n) a
  obtain ⟨k1, e1⟩ := Option.isSome_iff_exists.mp (root_spec (E := E) l1).2.1
  obtain ⟨k2, e2⟩ := Option.isSome_iff_exists.mp (root_spec (E := E) l2).2.1
  have p1 := h.parity (dist_spec e1).1
  have p2 := h.parity (dist_spec e2).1
  have ne := h _ _ a
  rw [← r] at p2
  unfold side
  rw [e1, e2]
  show (!decide (k1 % 2 = k2 % 2)) = true
  by_cases z : k1 % 2 = k2 % 2
  · rw [p1, p2, z] at ne
    exact absurd rfl ne
  · simp [z]
theorem col_of_unlike {n : Nat} {E : Es} (h : unlikeB E (side n E) = true) : Col E fun v => decide (side n E v = 1) := by
  have key : ∀ e ∈ E, decide (side n E e.1 = 1) ≠ decide (side n E e.2 = 1) := fun e he => by
    have q := List.all_eq_true.mp h e he
    have b1 : side n E e.1 < 2 := Nat.mod_lt _ (by decide)
    have b2 : side n E e.2 < 2 := Nat.mod_lt _ (by decide)
    have ne : side n E e.1 ≠ side n E e.2 := by simpa using q
    intro z
    have z2 := decide_eq_decide.mp z
    omega
  intro u v a
  rcases adj_iff.mp a with q | q
  · exact key _ q
  · exact (key _ q).symm
theorem unlike_iff {n : Nat} {E : Es} (g : Good n E) : unlikeB E (side n E) = true ↔ ∃ c, Col E c := ⟨fun h => ⟨_, col_of_unlike h⟩, fun ⟨c, h⟩ => unlike_of_col g h⟩
end Nsr
end
section
set_option Elab.async false
set_option linter.all false
set_option maxRecDepth 100000
set_option maxHeartbeats 1000000
set_option autoImplicit false
namespace Nsr
/-! ### lists -/
theorem lt_ext : ∀ {l m : List Nat}, l.Pairwise (· < ·) → m.Pairwise (· < ·) → (∀ x, x ∈ l ↔ x ∈ m) → l = m
  | [], [], _, _, _ => rfl
  | [], y :: m, _, _, h => absurd ((h y).mpr List.mem_cons_self) (by simp)
  | x :: l, [], _, _, h => absurd ((h x).mp List.mem_cons_self) (by simp)
  | x :: l, y :: m, hl, hm, h => by
    obtain ⟨a1, a2⟩ := List.pairwise_cons.mp hl
    obtain ⟨b1, b2⟩ := List.pairwise_cons.mp hm
    have e : x = y := by
      rcases List.mem_cons.mp ((h x).mp List.mem_cons_self) with q | q
      · exact q
      · rcases List.mem_cons.mp ((h y).mpr List.mem_cons_self) with r | r
        · exact r.symm
        · have := a1 y r
          have := b1 x q
          omega
    subst e
    refine congrArg (x :: ·) (lt_ext a2 b2 fun z => ⟨fun hz => ?_, fun hz => ?_⟩)
    · rcases List.mem_cons.mp ((h z).mp (List.mem_cons_of_mem _ hz)) with q | q
      · have := a1 z hz
        omega
      · exact q
    · rcases List.mem_cons.mp ((h z).mpr (List.mem_cons_of_mem _ hz)) with q | q
      · have := b1 z hz
        omega
      · exact q
theorem le_lt {l : List Nat} (h : l.Pairwise (· ≤ ·)) (n : l.Nodup) : l.Pairwise (· < ·) := by
  have h2 := List.Pairwise.and h n
  exact h2.imp fun {a b} q => Nat.lt_of_le_of_ne q.1 q.2
theorem lt_nodup {l : List Nat} (h : l.Pairwise (· < ·)) : l.Nodup := h.imp fun {a b} q => Nat.ne_of_lt q
theorem range_lt (n : Nat) : (List.range n).Pairwise (· < ·) := List.pairwise_lt_range
theorem perm_of_sub {M L : List Nat} (hM : M.Nodup) (hL : L.Nodup) (hs : ∀ x ∈ M, x ∈ L) (hl : M.length = L.length) : M.Perm L := by
  refine (List.perm_ext_iff_of_nodup hM hL).mpr fun x => ⟨hs x, fun hx => ?_⟩
  rcases Classical.em (x ∈ M) with c | c
  · exact c
  · exfalso
    have key : ∀ (l D : List Nat), l.Nodup → (∀ x ∈ l, x ∈ D) → l.length ≤ D.length := by
      intro l
      induction l with
      | nil => intro D _ _; exact Nat.zero_le _
      | cons x l ih =>
        intro D hn hs
        obtain ⟨h1, h2⟩ := List.nodup_cons.mp hn
        have hx : x ∈ D := hs x List.mem_cons_self
        have q := ih (D.erase x) h2 fun y hy => (List.mem_erase_of_ne (fun (e : y = x) => h1 (e ▸ hy))).2 (hs y (List.mem_cons_of_mem _ hy))
        have e := List.length_erase_of_mem hx
        have hp : 0 < D.length := List.length_pos_of_mem hx
        rw [List.length_cons]
        omega
    have := key (x :: M) L (List.nodup_cons.mpr ⟨c, hM⟩) fun y hy => by
      rcases List.mem_cons.mp hy with e | e
      · rw [e]
        exact hx
      · exact hs y e
    rw [List.length_cons] at this
    omega
/-! ### the places tied to one -/
def nb (n : Nat) (E : Es) (v : Nat) : List Nat := (List.range n).filter (adj E v)
theorem mem_nb {n : Nat} {E : Es} {v w : Nat} : w ∈ nb n E v ↔ w < n ∧ adj E v w = true := by
  unfold nb
  rw [List.mem_filter, List.mem_range]
theorem mem_nbG {n : Nat} {E : Es} (g : Good n E) {v w : Nat} : w ∈ nb n E v ↔ adj E v w = true := mem_nb.trans ⟨fun h => h.2, fun h => ⟨(g.adj_lt h).2.1, h⟩⟩
theorem nb_lt (n : Nat) (E : Es) (v : Nat) : (nb n E v).Pairwise (· < ·) := (range_lt n).filter _
theorem nb_nodup (n : Nat) (E : Es) (v : Nat) : (nb n E v).Nodup := lt_nodup (nb_lt n E v)
theorem nb_len (n : Nat) (E : Es) (v : Nat) : (nb n E v).length ≤ n := by
  have h := List.length_filter_le (adj E v) (List.range n)
  rw [List.length_range] at h
  exact h
/-- .. as they are met, tie by tie -/
def tieAt (e : Nat × Nat) (v : Nat) : List Nat := (if e.1 = v then [e.2] else []) ++ (if e.2 = v then [e.1] else [])
def rawNb (E : Es) (v : Nat) : List Nat := E.flatMap fun e => tieAt e v
theorem rawNb_snoc (E : Es) (e : Nat × Nat) (v : Nat) : rawNb (E ++ [e]) v = rawNb E v ++ tieAt e v := by
  unfold rawNb
  simp
theorem mem_tieAt {e : Nat × Nat} {v w : Nat} : w ∈ tieAt e v ↔ e = (v, w) ∨ e = (w, v) := by
  obtain ⟨a, b⟩ := e
  unfold tieAt
  by_cases h1 : a = v <;> by_cases h2 : b = v <;> simp [h1, h2] <;> omega
theorem mem_rawNb {E : Es} {v w : Nat} : w ∈ rawNb E v ↔ adj E v w = true := by
  unfold rawNb
  rw [List.mem_flatMap, adj_iff]
  constructor
  · intro ⟨e, he, h⟩
    rcases mem_tieAt.mp h with q | q
    · rw [q] at he
      exact .inl he
    · rw [q] at he
      exact .inr he
  · intro h
    rcases h with h | h
    · exact ⟨_, h, mem_tieAt.mpr (.inl rfl)⟩
    · exact ⟨_, h, mem_tieAt.mpr (.inr rfl)⟩
theorem rawNb_nodup {n : Nat} {E : Es} (g : Good n E) (v : Nat) : (rawNb E v).Nodup := by
  unfold rawNb
  unfold List.Nodup
  rw [List.pairwise_flatMap]
  refine ⟨fun e he => ?_, ?_⟩
  · have := g.lt e he
    unfold tieAt
    by_cases h1 : e.1 = v <;> by_cases h2 : e.2 = v
    · omega
    · simp [h1, h2]
    · simp [h1, h2]
    · simp [h1, h2]
  · refine g.nd.imp_of_mem fun {e e'} he he' ne => ?_
    intro w h1 w2 h2 ew
    subst ew
    have l1 := g.lt e he
    have l2 := g.lt e' he'
    rcases mem_tieAt.mp h1 with a | a <;> rcases mem_tieAt.mp h2 with b | b
    · exact ne (a.trans b.symm)
    · rw [a] at l1
      rw [b] at l2
      dsimp only at l1 l2
      omega
    · rw [a] at l1
      rw [b] at l2
      dsimp only at l1 l2
      omega
    · exact ne (a.trans b.symm)
theorem sorted_nb {n : Nat} {E : Es} (g : Good n E) (v : Nat) {l : List Nat} (hp : l.Perm (rawNb E v)) (hs : l.Pairwise (· ≤ ·)) : l = nb n E v := by
  refine lt_ext (le_lt hs (hp.nodup_iff.mpr (rawNb_nodup g v))) (nb_lt n E v) fun x => ?_
  rw [hp.mem_iff, mem_rawNb, mem_nbG g]
theorem rawNb_len {n : Nat} {E : Es} (g : Good n E) (v : Nat) : (rawNb E v).length ≤ n := by
  refine nodup_le (rawNb_nodup g v) fun w hw => ?_
  exact (g.adj_lt (mem_rawNb.mp hw)).2.1
theorem rawNb_len2 (E : Es) (v : Nat) : (rawNb E v).length ≤ 2 * E.length := by
  induction E with
  | nil => exact Nat.zero_le _
  | cons e E ih =>
    have h : (tieAt e v).length ≤ 2 := by
      unfold tieAt
      by_cases h1 : e.1 = v <;> by_cases h2 : e.2 = v <;> simp [h1, h2]
    have q : rawNb (e :: E) v = tieAt e v ++ rawNb E v := rfl
    rw [q, List.length_append, List.length_cons]
    omega
/-! ### webs by pairs -/
structure ByPairs (ps : Es) (E : Es) : Prop where
  mem : ∀ e, e ∈ E ↔ ∃ p ∈ ps, e = (min p.1 p.2, max p.1 p.2)
  nd : E.Nodup
theorem ByPairs.good {n : Nat} {ps E : Es} (h : ByPairs ps E) (hp : ∀ p ∈ ps, p.1 < n ∧ p.2 < n ∧ p.1 ≠ p.2) : Good n E := by
  refine ⟨fun e he => ?_, h.nd⟩
  obtain ⟨p, hm, rfl⟩ := (h.mem e).mp he
  have := hp p hm
  show min p.1 p.2 < max p.1 p.2 ∧ max p.1 p.2 < n
  omega
theorem ByPairs.adj {ps E : Es} (h : ByPairs ps E) {u v : Nat} : adj E u v = true ↔ (u, v) ∈ ps ∨ (v, u) ∈ ps := by
  rw [adj_iff, h.mem, h.mem]
  constructor
  · rintro (⟨p, hp, e⟩ | ⟨p, hp, e⟩)
    · have e1 : u = min p.1 p.2 := congrArg Prod.fst e
      have e2 : v = max p.1 p.2 := congrArg Prod.snd e
      rcases Nat.le_total p.1 p.2 with l | l
      · left
        have : (u, v) = p := by
          obtain ⟨a, b⟩ := p
          dsimp only at *
          rw [e1, e2, Nat.min_eq_left l, Nat.max_eq_right l]
        rw [this]
        exact hp
      · right
        have : (v, u) = p := by
          obtain ⟨a, b⟩ := p
          dsimp only at *
          rw [e1, e2, Nat.min_eq_right l, Nat.max_eq_left l]
        rw [this]
        exact hp
    · have e1 : v = min p.1 p.2 := congrArg Prod.fst e
      have e2 : u = max p.1 p.2 := congrArg Prod.snd e
      rcases Nat.le_total p.1 p.2 with l | l
      · right
        have : (v, u) = p := by
          obtain ⟨a, b⟩ := p
          dsimp only at *
          rw [e1, e2, Nat.min_eq_left l, Nat.max_eq_right l]
        rw [this]
        exact hp
      · left
        have : (u, v) = p := by
          obtain ⟨a, b⟩ := p
          dsimp only at *
          rw [e1, e2, Nat.min_eq_right l, Nat.max_eq_left l]
        rw [this]
        exact hp
  · rintro (hp | hp)
    · rcases Nat.le_total u v with l | l
      · exact .inl ⟨_, hp, by rw [Nat.min_eq_left l, Nat.max_eq_right l]⟩
      · exact .inr ⟨_, hp, by rw [Nat.min_eq_right l, Nat.max_eq_left l]⟩
    · rcases Nat.le_total v u with l | l
      · exact .inr ⟨_, hp, by rw [Nat.min_eq_left l, Nat.max_eq_right l]⟩
      · exact .inl ⟨_, hp, by rw [Nat.min_eq_right l, Nat.max_eq_left l]⟩
/-! ### doubles -/
def dblPairs (n : Nat) (E : Es) : Es := E.flatMap fun e => [(e.1, e.2 + n), (e.2, e.1 + n)]
theorem mem_dblPairs {n : Nat} {E : Es} {p : Nat × Nat} : p ∈ dblPairs n E ↔ ∃ e ∈ E, p = (e.1, e.2 + n) ∨ p = (e.2, e.1 + n) := by
  unfold dblPairs
  rw [List.mem_flatMap]
  simp
theorem dbl_good {n : Nat} {E D : Es} (g : Good n E) (h : ByPairs (dblPairs n E) D) : Good (2 * n) D := by
  refine h.good fun p hp => ?_
  obtain ⟨e, he, q | q⟩ := mem_dblPairs.mp hp
  · have := g.lt e he
    rw [q]
    dsimp only
    omega
  · have := g.lt e he
    rw [q]
    dsimp only
    omega
theorem dbl_adj {n : Nat} {E D : Es} (g : Good n E) (h : ByPairs (dblPairs n E) D) {u v : Nat} : adj D u v = true ↔ (u < n ∧ n ≤ v ∧ adj E u (v - n) = true) ∨ (v < n ∧ n ≤ u ∧ adj E v (u - n) = true) := by
  rw [h.adj]
  have key : ∀ u v, (u, v) ∈ dblPairs n E ↔ u < n ∧ n ≤ v ∧ adj E u (v - n) = true := fun u v => by
    rw [mem_dblPairs]
    constructor
    · rintro ⟨e, he, q | q⟩
      · have e1 : u = e.1 := congrArg Prod.fst q
        have e2 : v = e.2 + n := congrArg Prod.snd q
        have l := g.lt e he
        refine ⟨by omega, by omega, adj_iff.mpr (.inl ?_)⟩
        rw [e1, e2, Nat.add_sub_cancel]
        exact he
      · have e1 : u = e.2 := congrArg Prod.fst q
        have e2 : v = e.1 + n := congrArg Prod.snd q
        have l := g.lt e he
        refine ⟨by omega, by omega, adj_iff.mpr (.inr ?_)⟩
        rw [e1, e2, Nat.add_sub_cancel]
        exact he
    · rintro ⟨l1, l2, a⟩
      rcases adj_iff.mp a with q | q
      · exact ⟨_, q, .inl (by dsimp only; rw [Nat.sub_add_cancel l2])⟩
      · exact ⟨_, q, .inr (by dsimp only; rw [Nat.sub_add_cancel l2])⟩
  rw [key, key]
theorem dbl_col {n : Nat} {E D : Es} (g : Good n E) (h : ByPairs (dblPairs n E) D) : Col D fun v => decide (v < n) := by
  intro u v a z
  have z := decide_eq_decide.mp z
  rcases (dbl_adj g h).mp a with q | q
  · omega
  · omega
theorem mod_low {n p : Nat} (h : p < n) : p % n = p := Nat.mod_eq_of_lt h
theorem mod_high {n p : Nat} (h : n ≤ p) (h2 : p < 2 * n) : p % n = p - n := by
  rw [Nat.mod_eq_sub_mod h, Nat.mod_eq_of_lt (by omega)]
theorem dbl_nb_low {n : Nat} {E D : Es} (g : Good n E) (h : ByPairs (dblPairs n E) D) {p : Nat} (hp : p < n) : nb (2 * n) D p = (nb n E p).map (· + n) := by
  refine lt_ext (nb_lt _ _ _) ?_ fun x => ?_
  · rw [List.pairwise_map]
    exact (nb_lt n E p).imp fun {a b} q => by omega
  · rw [mem_nb, dbl_adj g h, List.mem_map]
    constructor
    · rintro ⟨_, ⟨_, l, a⟩ | ⟨_, l, _⟩⟩
      · exact ⟨x - n, (mem_nbG g).mpr a, by omega⟩
      · omega
    · rintro ⟨y, hy, rfl⟩
      have a := (mem_nbG g).mp hy
      have l := g.adj_lt a
      exact ⟨by omega, .inl ⟨hp, by omega, by rw [Nat.add_sub_cancel]; exact a⟩⟩
theorem dbl_nb_high {n : Nat} {E D : Es} (g : Good n E) (h : ByPairs (dblPairs n E) D) {p : Nat} (hp : n ≤ p) (hp2 : p < 2 * n) : nb (2 * n) D p = nb n E (p - n) := by
  refine lt_ext (nb_lt _ _ _) (nb_lt _ _ _) fun x => ?_
  rw [mem_nb, dbl_adj g h, mem_nbG g]
  constructor
  · rintro ⟨_, ⟨l, _, _⟩ | ⟨_, _, a⟩⟩
    · omega
    · exact adj_symm a
  · intro a
    have l := g.adj_lt a
    exact ⟨by omega, .inr ⟨l.2.1, hp, adj_symm a⟩⟩
theorem dbl_nb_mod {n : Nat} {E D : Es} (g : Good n E) (h : ByPairs (dblPairs n E) D) {p : Nat} (hp2 : p < 2 * n) : (nb (2 * n) D p).map (· % n) = nb n E (p % n) := by
  rcases Nat.lt_or_ge p n with l | l
  · rw [dbl_nb_low g h l, mod_low l, List.map_map]
    have e : (nb n E p).map ((· % n) ∘ (· + n)) = (nb n E p).map id := List.map_congr_left fun x hx => by
      have lx := (mem_nb.mp hx).1
      show (x + n) % n = x
      rw [Nat.add_mod_right, Nat.mod_eq_of_lt lx]
    rw [e, List.map_id]
  · rw [dbl_nb_high g h l hp2, mod_high l hp2]
    have e : (nb n E (p - n)).map (· % n) = (nb n E (p - n)).map id := List.map_congr_left fun x hx => Nat.mod_eq_of_lt (mem_nb.mp hx).1
    rw [e, List.map_id]
theorem dbl_deg {n : Nat} {E D : Es} (g : Good n E) (h : ByPairs (dblPairs n E) D) {p : Nat} (hp2 : p < 2 * n) : (nb (2 * n) D p).length = (nb n E (p % n)).length := by
  rw [← dbl_nb_mod g h hp2, List.length_map]
theorem dbl_cover {n : Nat} {E D : Es} (g : Good n E) (h : ByPairs (dblPairs n E) D) : Cover (2 * n) D E (· % n) := by
  refine ⟨fun u v hu hv a => ?_, fun u v w hu hv hw a b e => ?_⟩
  · rcases (dbl_adj g h).mp a with ⟨l1, l2, q⟩ | ⟨l1, l2, q⟩
    · rw [mod_low l1, mod_high l2 hv]
      exact q
    · rw [mod_low l1, mod_high l2 hu]
      exact adj_symm q
  · have e : v % n = w % n := e
    rcases (dbl_adj g h).mp a with ⟨l1, l2, q⟩ | ⟨l1, l2, q⟩ <;> rcases (dbl_adj g h).mp b with ⟨m1, m2, r⟩ | ⟨m1, m2, r⟩
    · rw [mod_high l2 hv, mod_high m2 hw] at e
      omega
    · omega
    · omega
    · rw [mod_low l1, mod_low m1] at e
      exact e
/-! ### as many ties at each -/
def deg (n : Nat) (E : Es) (v : Nat) : Nat := (nb n E v).length
def degs (n : Nat) (E : Es) : List Nat := (List.range n).map (deg n E)
def evenBy (n : Nat) (E : Es) : Option Nat := if degs n E = List.replicate n (deg n E 0) then some (deg n E 0) else none
theorem degs_iff {n d : Nat} {E : Es} : degs n E = List.replicate n d ↔ ∀ v, v < n → deg n E v = d := by
  unfold degs
  rw [List.eq_replicate_iff]
  simp
theorem dbl_even {n : Nat} {E D : Es} (g : Good n E) (h : ByPairs (dblPairs n E) D) (hn : 0 < n) : evenBy (2 * n) D = evenBy n E := by
  have e0 : deg (2 * n) D 0 = deg n E 0 := by
    have := dbl_deg g h (p := 0) (by omega)
    rw [Nat.zero_mod] at this
    exact this
  have ei : (degs (2 * n) D = List.replicate (2 * n) (deg (2 * n) D 0)) ↔ (degs n E = List.replicate n (deg n E 0)) := by
    rw [degs_iff, degs_iff, e0]
    constructor
    · intro q v hv
      have := dbl_deg g h (p := v) (by omega)
      rw [mod_low hv] at this
      exact this.symm.trans (q v (by omega))
    · intro q v hv
      exact (dbl_deg g h hv).trans (q _ (Nat.mod_lt _ hn))
  unfold evenBy
  by_cases c : degs n E = List.replicate n (deg n E 0)
  · rw [if_pos c, if_pos (ei.mpr c), e0]
  · rw [if_neg c, if_neg fun z => c (ei.mp z)]
end Nsr
end
section
set_option Elab.async false
set_option linter.all false
set_option maxRecDepth 100000
set_option maxHeartbeats 1000000
set_option autoImplicit false
namespace Nsr
theorem nodup_ix {l : List Nat} (h : l.Nodup) {i j : Nat} (hi : i < l.length) (hj : j < l.length) (e : l[i] = l[j]) : i = j := by
  rcases Nat.lt_trichotomy i j with c | c | c
  · exact absurd e (List.pairwise_iff_getElem.mp h i j hi hj c)
  · exact c
  · exact absurd e.symm (List.pairwise_iff_getElem.mp h j i hj hi c)
theorem nodup_map_on {l : List Nat} {f : Nat → Nat} (h : l.Nodup) (hf : ∀ a ∈ l, ∀ b ∈ l, f a = f b → a = b) : (l.map f).Nodup := by
  unfold List.Nodup
  rw [List.pairwise_map]
  exact h.imp_of_mem fun {a b} ha hb ne e => ne (hf a ha b hb e)
/-! ### renamed -/
abbrev at0 (r : List Nat) (p : Nat) : Nat := r.getD p 0
def namePairs (f : List Nat) (E : Es) : Es := E.map fun e => (at0 f e.1, at0 f e.2)
theorem at0_get {r : List Nat} {p : Nat} (h : p < r.length) : at0 r p = r[p] := by
  unfold at0
  rw [List.getD_eq_getElem?_getD, List.getElem?_eq_getElem h]
  rfl
theorem at0_some {r : List Nat} {p : Nat} (h : p < r.length) : r[p]? = some (at0 r p) := by
  rw [at0_get h, List.getElem?_eq_getElem h]
theorem at0_mem {r : List Nat} {p : Nat} (h : p < r.length) : at0 r p ∈ r := by
  rw [at0_get h]
  exact List.getElem_mem h
theorem at0_inj {r : List Nat} (hn : r.Nodup) {p q : Nat} (hp : p < r.length) (hq : q < r.length) (e : at0 r p = at0 r q) : p = q := by
  rw [at0_get hp, at0_get hq] at e
  exact nodup_ix hn hp hq e
structure Names (n : Nat) (f : List Nat) : Prop where
  pm : f.Perm (List.range n)
theorem Names.len {n : Nat} {f : List Nat} (h : Names n f) : f.length = n := by
  rw [h.pm.length_eq, List.length_range]
theorem Names.nd {n : Nat} {f : List Nat} (h : Names n f) : f.Nodup := h.pm.nodup_iff.mpr List.nodup_range
theorem Names.lt {n : Nat} {f : List Nat} (h : Names n f) {p : Nat} (hp : p < n) : at0 f p < n := List.mem_range.mp (h.pm.mem_iff.mp (at0_mem (by rw [h.len]; exact hp)))
theorem Names.onto {n : Nat} {f : List Nat} (h : Names n f) {x : Nat} (hx : x < n) : ∃ p, p < n ∧ at0 f p = x := by
  obtain ⟨p, hp, e⟩ := List.getElem_of_mem (h.pm.mem_iff.mpr (List.mem_range.mpr hx))
  exact ⟨p, by rw [← h.len]; exact hp, by rw [at0_get hp]; exact e⟩
theorem Names.inj {n : Nat} {f : List Nat} (h : Names n f) {p q : Nat} (hp : p < n) (hq : q < n) (e : at0 f p = at0 f q) : p = q := at0_inj h.nd (by rw [h.len]; exact hp) (by rw [h.len]; exact hq) e
theorem mem_namePairs {f : List Nat} {E : Es} {p : Nat × Nat} : p ∈ namePairs f E ↔ ∃ e ∈ E, p = (at0 f e.1, at0 f e.2) := by
  unfold namePairs
  rw [List.mem_map]
  constructor
  · rintro ⟨e, h, q⟩
    exact ⟨e, h, q.symm⟩
  · rintro ⟨e, h, q⟩
    exact ⟨e, h, q.symm⟩
section
variable {n : Nat} {E R : Es} {f : List Nat}
theorem ren_good (g : Good n E) (N : Names n f) (h : ByPairs (namePairs f E) R) : Good n R := by
  refine h.good fun p hp => ?_
  obtain ⟨e, he, rfl⟩ := mem_namePairs.mp hp
  have l := g.lt e he
  refine ⟨N.lt (by omega), N.lt l.2, fun z => ?_⟩
  have := N.inj (by omega) l.2 z
  omega
theorem ren_adj (g : Good n E) (N : Names n f) (h : ByPairs (namePairs f E) R) {u v : Nat} (hu : u < n) (hv : v < n) : adj R (at0 f u) (at0 f v) = true ↔ adj E u v = true := by
  rw [h.adj, adj_iff]
  have key : ∀ u v, u < n → v < n → ((at0 f u, at0 f v) ∈ namePairs f E ↔ (u, v) ∈ E) := fun u v hu hv => by
    rw [mem_namePairs]
    constructor
    · rintro ⟨e, he, q⟩
      have l := g.lt e he
      have e1 : u = e.1 := N.inj hu (by omega) (congrArg Prod.fst q)
      have e2 : v = e.2 := N.inj hv l.2 (congrArg Prod.snd q)
      rw [e1, e2]
      exact he
    · intro q
      exact ⟨_, q, rfl⟩
  rw [key u v hu hv, key v u hv hu]
theorem ren_col (g : Good n E) (N : Names n f) (h : ByPairs (namePairs f E) R) : (∃ c, Col R c) ↔ ∃ c, Col E c := by
  constructor
  · rintro ⟨c, hc⟩
    exact ⟨fun v => c (at0 f v), fun u v a => hc _ _ ((ren_adj g N h (g.adj_lt a).1 (g.adj_lt a).2.1).mpr a)⟩
  · rintro ⟨c, hc⟩
    refine ⟨fun x => c (f.idxOf x), fun x y a => ?_⟩
    have g2 := ren_good g N h
    obtain ⟨l1, l2, _⟩ := g2.adj_lt a
    obtain ⟨u, hu, rfl⟩ := N.onto l1
    obtain ⟨v, hv, rfl⟩ := N.onto l2
    have ix : ∀ p, p < n → f.idxOf (at0 f p) = p := fun p hp => by
      have hl : p < f.length := by rw [N.len]; exact hp
      rw [at0_get hl]
      exact N.nd.idxOf_getElem p hl
    show c (f.idxOf (at0 f u)) ≠ c (f.idxOf (at0 f v))
    rw [ix u hu, ix v hv]
    exact hc u v ((ren_adj g N h hu hv).mp a)
end

/-! ### folds -/
structure Fold (n : Nat) (N : Nat → List Nat) (m : Nat) (M : Nat → List Nat) (r : List Nat) : Prop where
  len : r.length = n
  lt : ∀ x ∈ r, x < m
  goes : ∀ p, p < n → ((N p).map (at0 r)).Perm (M (at0 r p))
theorem Fold.cover {n m : Nat} {E F : Es} {r : List Nat} (g : Good n E) (h : Fold n (nb n E) m (nb m F) r) : Cover n E F (at0 r) := by
  refine ⟨fun u v hu hv a => ?_, fun u v w hu hv hw a b e => ?_⟩
  · have q := (h.goes u hu).mem_iff.mp (List.mem_map.mpr ⟨v, (mem_nbG g).mpr a, rfl⟩)
    exact (mem_nb.mp q).2
  · have nd : ((nb n E u).map (at0 r)).Nodup := (h.goes u hu).nodup_iff.mpr (nb_nodup m F _)
    have hv' := (mem_nbG g).mpr a
    have hw' := (mem_nbG g).mpr b
    obtain ⟨i, hi, ei⟩ := List.getElem_of_mem hv'
    obtain ⟨j, hj, ej⟩ := List.getElem_of_mem hw'
    have : i = j := by
      refine nodup_ix nd (by rw [List.length_map]; exact hi) (by rw [List.length_map]; exact hj) ?_
      rw [List.getElem_map, List.getElem_map, ei, ej]
      exact e
    subst this
    rw [← ei, ej]
theorem fold_id {n : Nat} {E : Es} : Fold n (nb n E) n (nb n E) (List.range n) := by
  refine ⟨List.length_range, fun x hx => List.mem_range.mp hx, fun p hp => ?_⟩
  have e : ∀ x, x < n → at0 (List.range n) x = x := fun x hx => by
    rw [at0_get (by rw [List.length_range]; exact hx), List.getElem_range]
  have e2 : (nb n E p).map (at0 (List.range n)) = (nb n E p).map id := List.map_congr_left fun x hx => e x (mem_nb.mp hx).1
  rw [e2, List.map_id, e p hp]
theorem fold_ren {n : Nat} {E R : Es} {f : List Nat} (g : Good n E) (N : Names n f) (h : ByPairs (namePairs f E) R) : Fold n (nb n E) n (nb n R) f := by
  refine ⟨N.len, fun x hx => List.mem_range.mp (N.pm.mem_iff.mp hx), fun p hp => ?_⟩
  have nd : ((nb n E p).map (at0 f)).Nodup := nodup_map_on (nb_nodup n E p) fun a ha b hb e => N.inj (mem_nb.mp ha).1 (mem_nb.mp hb).1 e
  refine (List.perm_ext_iff_of_nodup nd (nb_nodup n R _)).mpr fun x => ?_
  rw [List.mem_map, mem_nb]
  constructor
  · rintro ⟨q, hq, rfl⟩
    have a := mem_nb.mp hq
    exact ⟨N.lt a.1, (ren_adj g N h hp a.1).mpr a.2⟩
  · rintro ⟨l, a⟩
    obtain ⟨q, hq, rfl⟩ := N.onto l
    exact ⟨q, mem_nb.mpr ⟨hq, (ren_adj g N h hp hq).mp a⟩, rfl⟩
theorem fold_dbl {n : Nat} {E D : Es} (g : Good n E) (h : ByPairs (dblPairs n E) D) (hn : 0 < n) : Fold (2 * n) (nb (2 * n) D) n (nb n E) ((List.range (2 * n)).map (· % n)) := by
  refine ⟨by rw [List.length_map, List.length_range], fun x hx => ?_, fun p hp => ?_⟩
  · obtain ⟨y, _, rfl⟩ := List.mem_map.mp hx
    exact Nat.mod_lt _ hn
  · have e : ∀ x, x < 2 * n → at0 ((List.range (2 * n)).map (· % n)) x = x % n := fun x hx => by
      rw [at0_get (by rw [List.length_map, List.length_range]; exact hx), List.getElem_map, List.getElem_range]
    have e2 : (nb (2 * n) D p).map (at0 ((List.range (2 * n)).map (· % n))) = (nb (2 * n) D p).map (· % n) := List.map_congr_left fun x hx => e x (mem_nb.mp hx).1
    rw [e2, e p hp, dbl_nb_mod g h hp]
/-! the search -/
def mayA (N M : Nat → List Nat) (b : List Nat) : Bool := decide ((N (b.length - 1)).length = (M (at0 b (b.length - 1))).length)
def mayB (N M : Nat → List Nat) (b : List Nat) (p : Nat) : Bool := !(decide (p < b.length - 1) && !decide (at0 b p ∈ M (at0 b (b.length - 1))))
def somes (N : Nat → List Nat) (b : List Nat) (p : Nat) : List Nat := ((N p).filter fun q => decide (q ≤ b.length - 1)).map (at0 b)
def mayC (N : Nat → List Nat) (b : List Nat) (p : Nat) : Bool := decide (somes N b p).Nodup
def mayGo (N M : Nat → List Nat) (b : List Nat) : Bool := mayA N M b && ((N (b.length - 1)).all (mayB N M b) && (N (b.length - 1) ++ [b.length - 1]).all (mayC N b))
def ff (m : Nat) (N M : Nat → List Nat) : Nat → List Nat → Option (List Nat)
  | 0, b => some b
  | k + 1, b => (List.range m).findSome? fun p => if mayGo N M (b ++ [p]) = true then ff m N M k (b ++ [p]) else none
theorem ff_zero {m : Nat} {N M : Nat → List Nat} {b : List Nat} : ff m N M 0 b = some b := rfl
theorem ff_succ {m k : Nat} {N M : Nat → List Nat} {b : List Nat} : ff m N M (k + 1) b = (List.range m).findSome? fun p => if mayGo N M (b ++ [p]) = true then ff m N M k (b ++ [p]) else none := rfl
theorem ff_some {m : Nat} {N M : Nat → List Nat} : ∀ {k : Nat} {b r : List Nat}, ff m N M k b = some r → (∀ x ∈ b, x < m) → r.length = b.length + k ∧ r.take b.length = b ∧ (∀ x ∈ r, x < m) ∧ ∀ j, b.length ≤ j → j < r.length → mayGo N M (r.take (j + 1)) = true
  | 0, b, r, h, hb => by
    have e : b = r := Option.some.inj h
    subst e
    exact ⟨rfl, List.take_length, hb, fun j h1 h2 => absurd h2 (by omega)⟩
  | k + 1, b, r, h, hb => by
    rw [ff_succ] at h
    obtain ⟨p, hp, q⟩ := List.exists_of_findSome?_eq_some h
    split at q
    · rename_i mg
      have hlt := List.mem_range.mp hp
      obtain ⟨h1, h2, h3, h4⟩ := ff_some q fun x hx => by
        rcases List.mem_append.mp hx with z | z
        · exact hb x z
        · have : x = p := by simpa using z
          omega
      rw [List.length_append, List.length_singleton] at h1 h2 h4
      have ht : r.take b.length = b := by
        have e := congrArg (List.take b.length) h2
        rw [List.take_take, Nat.min_eq_left (Nat.le_succ _), List.take_append_of_le_length (Nat.le_refl _), List.take_length] at e
        exact e
      refine ⟨by omega, ht, h3, fun j a c => ?_⟩
      by_cases z : j = b.length
      · subst z
        rw [h2]
        exact mg
      · exact h4 j (by omega) c
    · cases q
theorem ff_is {m : Nat} {N M : Nat → List Nat} {r : List Nat} {n : Nat} (hr : r.length = n) (hlt : ∀ x ∈ r, x < m) (hm : ∀ j, j < n → mayGo N M (r.take (j + 1)) = true) : ∀ k, k ≤ n → (ff m N M k (r.take (n - k))).isSome = true
  | 0, _ => rfl
  | k + 1, hk => by
    have hj : n - (k + 1) < r.length := by omega
    have e : r.take (n - (k + 1)) ++ [r[n - (k + 1)]] = r.take (n - k) := by
      rw [show n - k = n - (k + 1) + 1 by omega]
      exact List.take_append_getElem hj
    have ih := ff_is hr hlt hm k (by omega)
    rw [ff_succ]
    have q : ∃ p ∈ List.range m, ((if mayGo N M (r.take (n - (k + 1)) ++ [p]) = true then ff m N M k (r.take (n - (k + 1)) ++ [p]) else none).isSome = true) := by
      refine ⟨r[n - (k + 1)], List.mem_range.mpr (hlt _ (List.getElem_mem hj)), ?_⟩
      rw [e, if_pos (by rw [show n - k = n - (k + 1) + 1 by omega]; exact hm _ (by omega))]
      exact ih
    rw [List.findSome?_isSome_iff]
    obtain ⟨p, hp, s⟩ := q
    exact ⟨p, hp, s⟩
theorem at0_take {r : List Nat} {k p : Nat} (h : p < k) : at0 (r.take k) p = at0 r p := by
  unfold at0
  rw [List.getD_eq_getElem?_getD, List.getD_eq_getElem?_getD, List.getElem?_take_of_lt h]
theorem may_iff {n m : Nat} {E F : Es} (g : Good n E) {r : List Nat} {k : Nat} (hr : r.length = n) (hk : k < n) :
    mayGo (nb n E) (nb m F) (r.take (k + 1)) = true ↔ (nb n E k).length = (nb m F (at0 r k)).length ∧ (∀ p ∈ nb n E k, p < k → at0 r p ∈ nb m F (at0 r k)) ∧
      ∀ p, p ∈ nb n E k ∨ p = k → (((nb n E p).filter fun q => decide (q ≤ k)).map (at0 r)).Nodup := by
  have hl : (r.take (k + 1)).length - 1 = k := by
    rw [List.length_take]
    omega
  have ek : at0 (r.take (k + 1)) k = at0 r k := at0_take (Nat.lt_succ_self k)
  have es : ∀ p, somes (nb n E) (r.take (k + 1)) p = ((nb n E p).filter fun q => decide (q ≤ k)).map (at0 r) := fun p => by
    unfold somes
    rw [hl]
    refine List.map_congr_left fun q hq => ?_
    have := of_decide_eq_true (List.mem_filter.mp hq).2
    exact at0_take (by omega)
  unfold mayGo mayA
  rw [hl, ek, Bool.and_eq_true, Bool.and_eq_true, decide_eq_true_eq, List.all_eq_true, List.all_eq_true]
  refine and_congr Iff.rfl (and_congr ?_ ?_)
  · refine forall_congr' fun p => forall_congr' fun hp => ?_
    unfold mayB
    rw [hl, ek]
    by_cases c : p < k
    · rw [at0_take (show p < k + 1 by omega)]
      simp [c]
    · simp [c]
  · constructor
    · intro h p hp
      have := h p (by
        rw [List.mem_append]
        rcases hp with z | z
        · exact .inl z
        · exact .inr (by simp [z]))
      unfold mayC at this
      rw [es] at this
      exact of_decide_eq_true this
    · intro h p hp
      unfold mayC
      rw [es]
      refine decide_eq_true (h p ?_)
      rcases List.mem_append.mp hp with z | z
      · exact .inl z
      · exact .inr (by simpa using z)
theorem fold_of_may {n m : Nat} {E F : Es} (g : Good n E) (g2 : Good m F) {r : List Nat} (hr : r.length = n) (hlt : ∀ x ∈ r, x < m) (h : ∀ k, k < n → mayGo (nb n E) (nb m F) (r.take (k + 1)) = true) : Fold n (nb n E) m (nb m F) r := by
  have H := fun k hk => (may_iff (F := F) (m := m) g hr hk).mp (h k hk)
  refine ⟨hr, hlt, fun p hp => ?_⟩
  refine perm_of_sub ?_ (nb_nodup m F _) (fun x hx => ?_) ?_
  · -- one to one
    cases e : nb n E p with
    | nil => exact List.nodup_nil
    | cons a l =>
      have hne : nb n E p ≠ [] := by
        rw [e]
        exact List.cons_ne_nil _ _
      let k := (nb n E p).getLast hne
      have hk : k ∈ nb n E p := List.getLast_mem hne
      have ak := (mem_nbG g).mp hk
      have q := (H k (mem_nb.mp hk).1).2.2 p (.inl ((mem_nbG g).mpr (adj_symm ak)))
      have all : ((nb n E p).filter fun q => decide (q ≤ k)) = nb n E p := by
        rw [List.filter_eq_self]
        intro x hx
        refine decide_eq_true ?_
        have pw := nb_lt n E p
        have el : nb n E p = (nb n E p).dropLast ++ [k] := (List.dropLast_concat_getLast hne).symm
        rw [el] at pw hx
        rcases List.mem_append.mp hx with z | z
        · exact Nat.le_of_lt ((List.pairwise_append.mp pw).2.2 x z k (List.mem_singleton.mpr rfl))
        · have : x = k := by simpa using z
          omega
      rw [all] at q
      rw [← e]
      exact q
  · obtain ⟨q, hq, rfl⟩ := List.mem_map.mp hx
    have a := (mem_nbG g).mp hq
    have l := g.adj_lt a
    rcases Nat.lt_or_ge q p with c | c
    · exact (H p hp).2.1 q hq c
    · have hq2 : p ∈ nb n E q := (mem_nbG g).mpr (adj_symm a)
      have z := (H q l.2.1).2.1 p hq2 (by omega)
      exact mem_nb.mpr ⟨hlt _ (at0_mem (by omega)), adj_symm (mem_nb.mp z).2⟩
  · rw [List.length_map]
    exact (H p hp).1
theorem may_of_fold {n m : Nat} {E F : Es} (g : Good n E) (g2 : Good m F) {r : List Nat} (h : Fold n (nb n E) m (nb m F) r) {k : Nat} (hk : k < n) : mayGo (nb n E) (nb m F) (r.take (k + 1)) = true := by
  refine (may_iff g h.len hk).mpr ⟨?_, fun p hp _ => ?_, fun p hp => ?_⟩
  · have := (h.goes k hk).length_eq
    rw [List.length_map] at this
    exact this
  · exact (h.goes k hk).mem_iff.mp (List.mem_map.mpr ⟨p, hp, rfl⟩)
  · have hp' : p < n := by
      rcases hp with z | z
      · exact (mem_nb.mp z).1
      · omega
    have nd : ((nb n E p).map (at0 r)).Nodup := (h.goes p hp').nodup_iff.mpr (nb_nodup m F _)
    exact nd.sublist (List.filter_sublist.map _)
noncomputable def firstFold (n m : Nat) (E F : Es) : Option (List Nat) := ff m (nb n E) (nb m F) n []
theorem firstFold_fold {n m : Nat} {E F : Es} (g : Good n E) (g2 : Good m F) {r : List Nat} (h : firstFold n m E F = some r) : Fold n (nb n E) m (nb m F) r := by
  obtain ⟨h1, _, h3, h4⟩ := ff_some h (by simp)
  have hl : r.length = n := by simpa using h1
  exact fold_of_may g g2 hl h3 fun k hk => h4 k (Nat.zero_le _) (by omega)
theorem firstFold_is {n m : Nat} {E F : Es} (g : Good n E) (g2 : Good m F) {r : List Nat} (h : Fold n (nb n E) m (nb m F) r) : (firstFold n m E F).isSome = true := by
  have := ff_is h.len h.lt (fun j hj => may_of_fold g g2 h hj) n (Nat.le_refl _)
  rw [Nat.sub_self, List.take_zero] at this
  exact this
end Nsr
end
section
set_option Elab.async false
set_option linter.all false
set_option maxRecDepth 100000
set_option maxHeartbeats 1000000
set_option autoImplicit false
namespace Nsr
/-! ### pieces -/
noncomputable def pc (n : Nat) (E : Es) (r : Nat) : List Nat := (List.range n).filter fun u => (dist E r u).isSome
noncomputable def isRoot (n : Nat) (E : Es) (r : Nat) : Bool := decide (root n E r = r)
noncomputable def roots (n : Nat) (E : Es) (k : Nat) : List Nat := (List.range k).filter (isRoot n E)
theorem mem_pc {n : Nat} {E : Es} {r u : Nat} : u ∈ pc n E r ↔ u < n ∧ ∃ k, Wk E r u k := by
  unfold pc
  rw [List.mem_filter, List.mem_range, dist_isSome]
theorem self_pc {n : Nat} {E : Es} {r : Nat} (h : r < n) : r ∈ pc n E r := mem_pc.mpr ⟨h, 0, .nil⟩
theorem pc_lt (n : Nat) (E : Es) (r : Nat) : (pc n E r).Pairwise (· < ·) := (range_lt n).filter _
theorem pc_len (n : Nat) (E : Es) (r : Nat) : (pc n E r).length ≤ n := by
  have h := List.length_filter_le (fun u => (dist E r u).isSome) (List.range n)
  rw [List.length_range] at h
  exact h
theorem root_le {n : Nat} {E : Es} {u v k : Nat} (hv : v < n) (w : Wk E u v k) : root n E v ≤ u := by
  rcases Nat.lt_or_ge u (root n E v) with l | l
  · have := (root_spec (E := E) hv).2.2 u l
    rw [dist_isSome.mpr ⟨k, w⟩] at this
    cases this
  · exact l
theorem root_wk {n : Nat} {E : Es} {v : Nat} (hv : v < n) : ∃ k, Wk E (root n E v) v k := dist_isSome.mp (root_spec hv).2.1
theorem root_root {n : Nat} {E : Es} {v : Nat} (hv : v < n) : root n E (root n E v) = root n E v := by
  have h := root_spec (E := E) hv
  refine Nat.le_antisymm (root_le (n := n) h.1 (.nil (E := E))) ?_
  obtain ⟨k, w⟩ := root_wk (E := E) h.1
  obtain ⟨j, w2⟩ := root_wk (E := E) hv
  exact root_le hv (w.trans w2)
theorem root_wk_same {n : Nat} {E : Es} {u v k : Nat} (hu : u < n) (hv : v < n) (w : Wk E u v k) : root n E u = root n E v := by
  obtain ⟨a, wa⟩ := root_wk (E := E) hu
  obtain ⟨b, wb⟩ := root_wk (E := E) hv
  exact Nat.le_antisymm (root_le hu (wb.trans w.symm)) (root_le hv (wa.trans w))
theorem mem_pc_root {n : Nat} {E : Es} {r u : Nat} (hr : r < n) (e : root n E r = r) : u ∈ pc n E r ↔ u < n ∧ root n E u = r := by
  rw [mem_pc]
  constructor
  · rintro ⟨l, k, w⟩
    exact ⟨l, (root_wk_same hr l w).symm.trans e⟩
  · rintro ⟨l, q⟩
    refine ⟨l, ?_⟩
    rw [← q]
    exact root_wk l
/-- the first of a piece is the place itself just where it is a root -/
theorem pc_head {n : Nat} {E : Es} {r : Nat} (hr : r < n) : (pc n E r)[0]? = some (root n E r) := by
  have hs := root_spec (E := E) hr
  have hm : root n E r ∈ pc n E r := by
    obtain ⟨k, w⟩ := root_wk (E := E) hr
    exact mem_pc.mpr ⟨hs.1, k, w.symm⟩
  cases e : pc n E r with
  | nil =>
    rw [e] at hm
    cases hm
  | cons a l =>
    have ha : a ∈ pc n E r := by
      rw [e]
      exact List.mem_cons_self
    obtain ⟨la, k, w⟩ := mem_pc.mp ha
    have l1 : root n E r ≤ a := root_le hr w.symm
    have l2 : a ≤ root n E r := by
      rw [e] at hm
      rcases List.mem_cons.mp hm with z | z
      · exact Nat.le_of_eq z.symm
      · have pw := pc_lt n E r
        rw [e] at pw
        exact Nat.le_of_lt ((List.pairwise_cons.mp pw).1 _ z)
    show some a = some (root n E r)
    rw [Nat.le_antisymm l2 l1]
theorem roots_succ {n k : Nat} {E : Es} : roots n E (k + 1) = roots n E k ++ (if isRoot n E k = true then [k] else []) := by
  unfold roots
  rw [List.range_succ, List.filter_append]
  by_cases c : isRoot n E k = true
  · rw [if_pos c]
    simp [c]
  · rw [if_neg c]
    simp [c]
theorem mem_roots {n k : Nat} {E : Es} {r : Nat} : r ∈ roots n E k ↔ r < k ∧ root n E r = r := by
  unfold roots isRoot
  rw [List.mem_filter, List.mem_range, decide_eq_true_eq]
theorem roots_len (n k : Nat) (E : Es) : (roots n E k).length ≤ k := by
  have h := List.length_filter_le (isRoot n E) (List.range k)
  rw [List.length_range] at h
  exact h
/-- what sides_by has found: the pieces done, and part of one more -/
noncomputable def sideSoFar (n : Nat) (E : Es) (rs part : List Nat) (v : Nat) : Nat := if root n E v ∈ rs ∨ v ∈ part then side n E v else 0
theorem side_start (n : Nat) (E : Es) (v : Nat) : sideSoFar n E [] [] v = 0 := by
  unfold sideSoFar
  simp
theorem side_turn {n : Nat} {E : Es} {rs part : List Nat} {x v : Nat} : sideSoFar n E rs (part ++ [x]) v = if v = x then side n E x else sideSoFar n E rs part v := by
  unfold sideSoFar
  by_cases c : v = x
  · subst c
    simp
  · simp [c]
theorem side_piece {n : Nat} {E : Es} {rs : List Nat} {r v : Nat} (hr : r < n) (e : root n E r = r) (hv : v < n) : sideSoFar n E rs (pc n E r) v = sideSoFar n E (rs ++ [r]) [] v := by
  unfold sideSoFar
  have q := mem_pc_root (u := v) hr e
  by_cases c : root n E v = r
  · simp [c, q, hv]
  · simp [c, q]
theorem side_all {n : Nat} {E : Es} {v : Nat} (hv : v < n) : sideSoFar n E (roots n E n) [] v = side n E v := by
  unfold sideSoFar
  rw [if_pos (.inl (mem_roots.mpr ⟨(root_spec hv).1, root_root hv⟩))]
theorem side_of_pc {n : Nat} {E : Es} {r v : Nat} (hr : r < n) (e : root n E r = r) (hv : v ∈ pc n E r) : ∃ k, dist E r v = some k ∧ side n E v = k % 2 := by
  obtain ⟨l, q⟩ := (mem_pc_root hr e).mp hv
  obtain ⟨k, h⟩ := Option.isSome_iff_exists.mp (root_spec (E := E) l).2.1
  rw [q] at h
  refine ⟨k, h, ?_⟩
  unfold side
  rw [q, h]
  rfl
theorem side_lt (n : Nat) (E : Es) (v : Nat) : side n E v < 2 := Nat.mod_lt _ (by decide)
end Nsr
end
section
set_option Elab.async false
set_option linter.all false
set_option maxRecDepth 100000
set_option maxHeartbeats 1000000
set_option autoImplicit false
namespace Nsr
/-! ### a web with a ring has a double with one -/
theorem ring_row {n : Nat} {E : Es} (g : Good n E) {s : Nat} (h : girth E = some s) : ∃ (L : Nat) (r : Nat → Nat), s = L + 1 ∧ 0 < L ∧ r (L + 1) = r 0 ∧ (∀ i, i < L + 1 → adj E (r i) (r (i + 1)) = true) ∧ (∀ i, i + 2 ≤ L + 1 → r i ≠ r (i + 2)) ∧ r L ≠ r 1 := by
  obtain ⟨t, ht, L, hd, rfl⟩ := ring_mem.mp (girth_some h).1
  obtain ⟨wk, least⟩ := dist_spec hd
  have tl := g.lt t ht
  obtain ⟨p, p0, pL, pa⟩ := wk.path
  have hL : 0 < L := by
    rcases Nat.eq_zero_or_pos L with z | z
    · subst z
      rw [p0] at pL
      omega
    · exact z
  have no : adj (without E t) t.1 t.2 ≠ true := fun a => by
    rcases without_adj.mp a with q | q
    · exact q.2 rfl
    · have := g.lt _ q.1
      omega
  let r : Nat → Nat := fun i => if i ≤ L then p i else t.1
  have rl : ∀ i, i ≤ L → r i = p i := fun i hi => if_pos hi
  have rL : r (L + 1) = t.1 := if_neg (by omega)
  refine ⟨L, r, rfl, hL, by rw [rL, rl 0 (Nat.zero_le _), p0], fun i hi => ?_, fun i hi z => ?_, fun z => ?_⟩
  · rcases Nat.lt_or_ge i L with l | l
    · rw [rl i (Nat.le_of_lt l), rl (i + 1) l]
      exact without_sub (pa i l)
    · have e : i = L := by omega
      subst e
      rw [rl i (Nat.le_refl _), rL, pL]
      exact adj_iff.mpr (.inr ht)
  · rcases Nat.lt_or_ge (i + 1) L with l | l
    · rw [rl i (by omega), rl (i + 2) (by omega)] at z
      have w1 := Wk.of_path (E := without E t) p 0 i fun j _ b => pa j (by omega)
      have w2 := Wk.of_path (E := without E t) p (i + 2) (L - (i + 2)) fun j _ b => pa j (by omega)
      rw [Nat.zero_add, p0, z] at w1
      rw [show i + 2 + (L - (i + 2)) = L by omega, pL] at w2
      exact least _ (by omega) (w1.trans w2)
    · have e : i + 1 = L := by omega
      rw [rl i (by omega), show i + 2 = L + 1 by omega, rL] at z
      have a := pa i (by omega)
      rw [e, z, pL] at a
      exact no a
  · rw [rl L (Nat.le_refl _), rl 1 hL, pL] at z
    have a := pa 0 hL
    rw [p0, ← z] at a
    exact no a
theorem girth_dbl_some {n : Nat} {E D : Es} (g : Good n E) (h : ByPairs (dblPairs n E) D) {s : Nat} (hs : girth E = some s) : ∃ s', girth D = some s' := by
  obtain ⟨L, r, rfl, hL, r0, ra, rn, rs⟩ := ring_row g hs
  have gd := dbl_good g h
  -- the row taken twice, by turns on either side
  have pos : 0 < L + 1 := by omega
  let rr : Nat → Nat := fun i => r (i % (L + 1))
  let q : Nat → Nat := fun i => rr i + (i % 2) * n
  have rra : ∀ i, adj E (rr i) (rr (i + 1)) = true := fun i => by
    have hm := Nat.mod_lt i pos
    have a := ra (i % (L + 1)) hm
    show adj E (r (i % (L + 1))) (r ((i + 1) % (L + 1))) = true
    rw [Nat.add_mod]
    rcases Nat.lt_or_ge (i % (L + 1) + 1) (L + 1) with l | l
    · rw [Nat.mod_eq_of_lt (show 1 < L + 1 by omega), Nat.mod_eq_of_lt l]
      exact a
    · have e : i % (L + 1) + 1 = L + 1 := by omega
      rw [Nat.mod_eq_of_lt (show 1 < L + 1 by omega), e, Nat.mod_self, ← r0]
      rw [e] at a
      exact a
  have rrn : ∀ i, rr i ≠ rr (i + 2) := fun i => by
    have hm := Nat.mod_lt i pos
    show r (i % (L + 1)) ≠ r ((i + 2) % (L + 1))
    have e2 : (i + 2) % (L + 1) = (i % (L + 1) + 2) % (L + 1) := (Nat.mod_add_mod i (L + 1) 2).symm
    rw [e2]
    rcases Nat.lt_trichotomy (i % (L + 1) + 2) (L + 1) with l | l | l
    · rw [Nat.mod_eq_of_lt l]
      exact rn _ (by omega)
    · have hl : i % (L + 1) + 2 ≤ L + 1 := by omega
      have k := rn (i % (L + 1)) hl
      rw [l, r0] at k
      rw [l, Nat.mod_self]
      exact k
    · have e : i % (L + 1) = L := by omega
      rw [e, show L + 2 = 1 + (L + 1) by omega, Nat.add_mod_right, Nat.mod_eq_of_lt (show 1 < L + 1 by omega)]
      exact rs
  have rlt : ∀ i, rr i < n := fun i => (g.adj_lt (rra i)).1
  have qa : ∀ i, adj D (q i) (q (i + 1)) = true := fun i => by
    have a := rra i
    have l1 := rlt i
    have l2 := rlt (i + 1)
    rw [dbl_adj g h]
    rcases Nat.mod_two_eq_zero_or_one i with z | z
    · have z1 : (i + 1) % 2 = 1 := by omega
      left
      show rr i + (i % 2) * n < n ∧ n ≤ rr (i + 1) + ((i + 1) % 2) * n ∧ adj E (rr i + (i % 2) * n) (rr (i + 1) + ((i + 1) % 2) * n - n) = true
      rw [z, z1, Nat.zero_mul, Nat.one_mul, Nat.add_zero, Nat.add_sub_cancel]
      exact ⟨l1, by omega, a⟩
    · have z1 : (i + 1) % 2 = 0 := by omega
      right
      show rr (i + 1) + ((i + 1) % 2) * n < n ∧ n ≤ rr i + (i % 2) * n ∧ adj E (rr (i + 1) + ((i + 1) % 2) * n) (rr i + (i % 2) * n - n) = true
      rw [z, z1, Nat.zero_mul, Nat.one_mul, Nat.add_zero, Nat.add_sub_cancel]
      exact ⟨l2, by omega, adj_symm a⟩
  obtain ⟨s', _, hs'⟩ := ring_of_row gd q (2 * (L + 1) - 1) (by omega) (by
    show rr (2 * (L + 1) - 1 + 1) + ((2 * (L + 1) - 1 + 1) % 2) * n = rr 0 + (0 % 2) * n
    rw [show 2 * (L + 1) - 1 + 1 = 2 * (L + 1) by omega]
    have e1 : rr (2 * (L + 1)) = rr 0 := by
      show r ((2 * (L + 1)) % (L + 1)) = r (0 % (L + 1))
      rw [Nat.mul_mod_left, Nat.zero_mod]
    rw [e1, Nat.mul_mod_right]) (fun i _ => qa i) fun i _ z => by
      have z : rr i + (i % 2) * n = rr (i + 2) + ((i + 2) % 2) * n := z
      rw [Nat.add_mod_right] at z
      exact rrn i (Nat.add_right_cancel z)
  exact ⟨s', hs'⟩
/-- all of the law about a double's rings -/
theorem dbl_rings {n : Nat} {E D : Es} (g : Good n E) (h : ByPairs (dblPairs n E) D) : (girth E = none ∧ girth D = none) ∨ ∃ s s', girth E = some s ∧ girth D = some s' ∧ s' % 2 = 0 ∧ s ≤ s' := by
  have gd := dbl_good g h
  cases e : girth D with
  | none =>
    cases e2 : girth E with
    | none => exact .inl ⟨rfl, rfl⟩
    | some s =>
      obtain ⟨s', hs'⟩ := girth_dbl_some g h e2
      rw [e] at hs'
      cases hs'
  | some s' =>
    obtain ⟨s, l, hs⟩ := girth_cover gd g (dbl_cover g h) e
    exact .inr ⟨s, s', hs, rfl, (dbl_col g h).even (n := 2 * n) e, l⟩
end Nsr
end
section
set_option Elab.async false
set_option linter.all false
set_option maxRecDepth 100000
set_option maxHeartbeats 4000000
set_option autoImplicit false
namespace Nsr
open PySem PySem.Spec PyProof.Rows L2
abbrev Ex := Evl.Ex
/-! ### lists beside lists -/
section
variable {α β : Type} {R R' : α → V → Prop}
theorem rel_get : ∀ {xs : List α} {ys : List V}, Paired R xs ys → ∀ {i : Nat} {x : α}, xs[i]? = some x → ∃ y, ys[i]? = some y ∧ R x y
  | _, _, .nil, i, x, h => by simp at h
  | _, _, .cons r t, 0, x, h => by
    have e := Option.some.inj h
    subst e
    exact ⟨_, rfl, r⟩
  | _, _, .cons r t, i + 1, x, h => rel_get t (i := i) h
theorem rel_get' : ∀ {xs : List α} {ys : List V}, Paired R xs ys → ∀ {i : Nat} {y : V}, ys[i]? = some y → ∃ x, xs[i]? = some x ∧ R x y
  | _, _, .nil, i, x, h => by simp at h
  | _, _, .cons r t, 0, x, h => by
    have e := Option.some.inj h
    subst e
    exact ⟨_, rfl, r⟩
  | _, _, .cons r t, i + 1, x, h => rel_get' t (i := i) h
theorem rel_len {xs : List α} {ys : List V} (h : Paired R xs ys) : xs.length = ys.length := Paired.length h
theorem rel_mono {xs : List α} {ys : List V} (h : Paired R xs ys) (f : ∀ a b, R a b → R' a b) : Paired R' xs ys := Paired.mapP h f
theorem rel_map {v : α → V} : ∀ {xs : List α} {ys : List V}, Paired (fun x y => y = v x) xs ys → ys = xs.map v
  | _, _, .nil => rfl
  | _, _, .cons r t => by rw [List.map_cons, ← rel_map t, r]
theorem rel_of_map {v : α → V} : ∀ (xs : List α), (∀ x ∈ xs, R x (v x)) → Paired R xs (xs.map v)
  | [], _ => .nil
  | x :: xs, h => .cons (h x List.mem_cons_self) (rel_of_map xs fun y hy => h y (List.mem_cons_of_mem _ hy))
end
/-! ### values -/
abbrev vi (a : Nat) : V := .int (a : Int)
def oV : Option Nat → V
  | none => .non
  | some k => vi k
theorem oV_non (o : Option Nat) : decide (oV o = V.non) = o.isNone := by
  cases o with
  | none => rfl
  | some k => exact decide_eq_false (fun h => by cases h)
/-- tuples stay -/
def ExT (H H' : Hp) : Prop := ∀ a xs, H a = some (.tup xs) → H' a = some (.tup xs)
theorem Ex.t {H H' : Hp} (e : Ex H H') : ExT H H' := fun a xs h => e a _ h
theorem ExT.refl (H : Hp) : ExT H H := fun _ _ h => h
theorem ExT.trans {H H1 H2 : Hp} (a : ExT H H1) (b : ExT H1 H2) : ExT H H2 := fun x o h => b x o (a x o h)
def IsP (H : Hp) (e : Nat × Nat) (v : V) : Prop := ∃ p, v = .ref p ∧ H p = some (.tup [vi e.1, vi e.2])
def IsPs (H : Hp) (t : Addr) (E : Es) : Prop := ∃ vs, H t = some (.tup vs) ∧ Paired (IsP H) E vs
def IsW (H : Hp) (v : V) (n : Nat) (E : Es) : Prop := ∃ p t, v = .ref p ∧ H p = some (.tup [vi n, .ref t]) ∧ IsPs H t E
def IsT (H : Hp) (l : List Nat) (v : V) : Prop := ∃ p, v = .ref p ∧ H p = some (.tup (l.map vi))
def IsL (H : Hp) (l : List Nat) (v : V) : Prop := ∃ p, v = .ref p ∧ H p = some (.lst (l.map vi))
def IsLL (H : Hp) (ls : List (List Nat)) (v : V) : Prop := ∃ p vs, v = .ref p ∧ H p = some (.lst vs) ∧ Paired (IsL H) ls vs
def IsLT (H : Hp) (ls : List (List Nat)) (v : V) : Prop := ∃ p vs, v = .ref p ∧ H p = some (.lst vs) ∧ Paired (IsT H) ls vs
def IsF (H : Hp) (n : Nat) (F : Nat → Option Nat) (v : V) : Prop := ∃ p, v = .ref p ∧ H p = some (.lst ((List.range n).map fun i => oV (F i)))
section
variable {H H' : Hp} {v : V}
theorem IsP.mono {e : Nat × Nat} (x : ExT H H') (h : IsP H e v) : IsP H' e v := by
  obtain ⟨p, q, r⟩ := h
  exact ⟨p, q, x _ _ r⟩
theorem IsPs.mono {t : Addr} {E : Es} (x : ExT H H') (h : IsPs H t E) : IsPs H' t E := by
  obtain ⟨vs, q, r⟩ := h
  exact ⟨vs, x _ _ q, rel_mono r fun a b z => z.mono x⟩
theorem IsW.mono {n : Nat} {E : Es} (x : ExT H H') (h : IsW H v n E) : IsW H' v n E := by
  obtain ⟨p, t, q, r, s⟩ := h
  exact ⟨p, t, q, x _ _ r, s.mono x⟩
theorem IsT.mono {l : List Nat} (x : ExT H H') (h : IsT H l v) : IsT H' l v := by
  obtain ⟨p, q, r⟩ := h
  exact ⟨p, q, x _ _ r⟩
theorem IsL.mono {l : List Nat} (x : Ex H H') (h : IsL H l v) : IsL H' l v := by
  obtain ⟨p, q, r⟩ := h
  exact ⟨p, q, x _ _ r⟩
theorem IsLL.mono {ls : List (List Nat)} (x : Ex H H') (h : IsLL H ls v) : IsLL H' ls v := by
  obtain ⟨p, vs, q, r, s⟩ := h
  exact ⟨p, vs, q, x _ _ r, rel_mono s fun a b z => z.mono x⟩
theorem IsLT.mono {ls : List (List Nat)} (x : Ex H H') (h : IsLT H ls v) : IsLT H' ls v := by
  obtain ⟨p, vs, q, r, s⟩ := h
  exact ⟨p, vs, q, x _ _ r, rel_mono s fun a b z => z.mono (Ex.t x)⟩
theorem IsF.mono {n : Nat} {F : Nat → Option Nat} (x : Ex H H') (h : IsF H n F v) : IsF H' n F v := by
  obtain ⟨p, q, r⟩ := h
  exact ⟨p, q, x _ _ r⟩
end
/-- a new object -/
theorem newO {Q : VK} {H : Hp} {o : HO} (k : ∀ p H1, H p = none → Ex H H1 → H1 p = some o → Q (.ref p) H1) : ∀ p, H p = none → Q (.ref p) (upd H p o) := fun p hp => k p _ hp (Evl.Ex.new hp) upd_same
theorem newOD {Q : Addr → Hp → Prop} {H : Hp} {o : HO} (k : ∀ p H1, H p = none → Ex H H1 → H1 p = some o → Q p H1) : ∀ p, H p = none → Q p (upd H p o) := fun p hp => k p _ hp (Evl.Ex.new hp) upd_same
/-- what a call hands back, all that stood kept -/
def Ret (post : V → Hp → Prop) (H : Hp) (Q : VK) : Prop := ∀ v H', Ex H H' → post v H' → Q v H'
theorem at_nat {α : Type} {xs : List α} {j : Nat} {v : α} (h : xs[j]? = some v) : atI xs (j : Int) = some v := atI_nat h
/-! ### comprehensions -/
/-- the heap without D -/
def del (H : Hp) (D : Addr) : Hp := fun b => if b = D then none else H b
theorem del_ne {H : Hp} {D b : Addr} (h : b ≠ D) : del H D b = H b := if_neg h
theorem del_ex (H : Hp) (D : Addr) : Ex (del H D) H := fun a o h => by
  unfold del at h
  split at h
  · cases h
  · exact h
theorem del_upd (H : Hp) (D : Addr) (o : HO) : Ex (del H D) (upd H D o) := fun a u h => by
  unfold del at h
  split at h
  · cases h
  · rename_i n
    rw [upd_ne n]
    exact h
theorem del_mono {H H' : Hp} {D : Addr} (e : Ex H H') : Ex (del H D) (del H' D) := fun a o h => by
  unfold del at h
  split at h
  · cases h
  · rename_i n
    rw [del_ne n]
    exact e a o h
theorem del_of {H H' : Hp} {D : Addr} (e : Ex H H') (h : H D = none) : Ex H (del H' D) := fun a o q => by
  rw [del_ne (ne_of_none q h)]
  exact e a o q
theorem del_upd_mono {H H' : Hp} {D : Addr} {o : HO} (e : Ex H H') : Ex (del H D) (del (upd H' D o) D) := fun a u h => by
  unfold del at h
  split at h
  · cases h
  · rename_i n
    rw [del_ne n, upd_ne n]
    exact e a u h
theorem del_tup {H : Hp} {D : Addr} {ys : List V} (h : H D = some (.lst ys)) : ExT H (del H D) := fun a xs q => by
  rw [del_ne (ne_of q h (by intro z; cases z))]
  exact q
theorem new2 {H : Hp} {p : Addr} (hp : H p = none) (o : HO) : Ex H (upd H p o) ∧ upd H p o p = some o := ⟨Evl.Ex.new hp, upd_same⟩
section
variable {α : Type} {J : It} {G : Hp → Prop} {g : TG} {tt : TT} {te : TE} {vs : List Nat} {σ : L2.St} {H1 : Hp} {D : Addr} {Qd : Hp → Prop}
theorem lc_rel (hD : H1 D = none) (xs : List α) (ss : List V) (hlen : xs.length = ss.length) (f : α → Bool) (T : α → V → Hp → Prop) (hT : ∀ x y H H', Ex H H' → T x y H → T x y H')
    (w : L2.Walk J ss.length G (YAt ss)) (hG : ∀ H', Ex H1 H' → G H') (hz : ss.length ≤ 1000)
    (turn : ∀ (i : Nat) (x : α) (s : V) (H2 : Hp) (Qn : VK) (Qs : Hp → Prop), xs[i]? = some x → ss[i]? = some s → (∃ ys, H2 D = some (.lst ys)) → Ex H1 H2 → (f x = true → ∀ y H5, Ex H2 H5 → T x y (del H5 D) → Qn y H5) → (f x = false → ∀ H5, Ex H2 H5 → Qs H5) →
      g s (wipe σ vs) H2 fun σ2 H3 => wipe σ2 vs = wipe σ vs ∧ tt σ2 H3 fun b H4 => if b = true then te σ2 H4 Qn else Qs H4)
    (k : ∀ H2 ys, Ex H1 H2 → H2 D = some (.lst ys) → Paired (fun x y => T x y H2) (xs.filter f) ys → Qd H2) :
    ∃ W : Nat → Nat → Hp → Prop, (∃ m, W 0 m (upd H1 D (.lst []))) ∧ ∀ i m H, W i m H →
      (J.stop i H ∧ Qd H) ∨ (J.go i H ∧ ∃ Nx : Hp → Prop, (∀ H', Nx H' → ∃ m', m' < m ∧ W (i + 1) m' H') ∧ ∀ x H', J.yld i H x H' → g x (wipe σ vs) H' fun σ2 H2 => wipe σ2 vs = wipe σ vs ∧ tt σ2 H2 fun b H3 =>
        if b = true then te σ2 H3 fun y H4 => ∃ acc, H4 D = some (.lst acc) ∧ acc.length < sizeLine ∧ Nx (upd H4 D (.lst (acc ++ [y]))) else Nx H3) := by
  refine lc_it w (fun i H => Ex H1 H ∧ ∃ ys, H D = some (.lst ys) ∧ Paired (fun x y => T x y (del H D)) ((xs.take i).filter f) ys) ⟨Evl.Ex.new hD, [], upd_same, .nil⟩ (fun i H _ h => hG H h.1) ?_ ?_
  · rintro i s H H' hi ⟨e, ys, hy, r⟩ ⟨rfl, hs⟩
    have hx : i < xs.length := by omega
    have gx : xs[i]? = some xs[i] := List.getElem?_eq_getElem hx
    have tk : xs.take (i + 1) = xs.take i ++ [xs[i]] := by rw [List.take_add_one, gx]; rfl
    refine turn i xs[i] s H' _ _ gx hs ⟨ys, hy⟩ e (fun hf y H5 e5 t => ?_) (fun hf H5 e5 => ?_)
    · have hl : ys.length < sizeLine := by
        have h1 := rel_len r
        have h2 := List.length_filter_le f (xs.take i)
        rw [List.length_take] at h2
        exact small1000 (by omega)
      refine ⟨ys, e5 _ _ hy, hl, Evl.Ex.mut (e.trans e5) hD, ys ++ [y], upd_same, ?_⟩
      rw [tk, List.filter_append, List.filter_cons, if_pos hf]
      exact Paired.snoc (rel_mono r fun x z q => hT _ _ _ _ (del_upd_mono e5) q) (hT _ _ _ _ (del_upd_mono (Evl.Ex.refl H5)) t)
    · refine ⟨e.trans e5, ys, e5 _ _ hy, ?_⟩
      rw [tk, List.filter_append, List.filter_cons, if_neg (by rw [hf]; decide), List.filter_nil, List.append_nil]
      exact rel_mono r fun x z q => hT _ _ _ _ (del_mono e5) q
  · rintro H ⟨e, ys, hy, r⟩
    rw [← hlen, List.take_length] at r
    exact k H ys e hy (rel_mono r fun x z q => hT _ _ _ _ (del_ex H D) q)
theorem tYes_go {te : TE} {σ : L2.St} {H : Hp} {A : VK} {B : Hp → Prop} (h : te σ H A) : tYes σ H (fun b H3 => if b = true then te σ H3 A else B H3) := by
  show (if true = true then te σ H A else B H)
  rw [if_pos rfl]
  exact h
/-- without a test -/
theorem lc_all (hD : H1 D = none) (xs : List α) (ss : List V) (hlen : xs.length = ss.length) (T : α → V → Hp → Prop) (hT : ∀ x y H H', Ex H H' → T x y H → T x y H')
    (w : L2.Walk J ss.length G (YAt ss)) (hG : ∀ H', Ex H1 H' → G H') (hz : ss.length ≤ 1000)
    (turn : ∀ (i : Nat) (x : α) (s : V) (H2 : Hp) (Qn : VK), xs[i]? = some x → ss[i]? = some s → (∃ ys, H2 D = some (.lst ys)) → Ex H1 H2 → (∀ y H5, Ex H2 H5 → T x y (del H5 D) → Qn y H5) →
      g s (wipe σ vs) H2 fun σ2 H3 => wipe σ2 vs = wipe σ vs ∧ te σ2 H3 Qn)
    (k : ∀ H2 ys, Ex H1 H2 → H2 D = some (.lst ys) → Paired (fun x y => T x y H2) xs ys → Qd H2) :
    ∃ W : Nat → Nat → Hp → Prop, (∃ m, W 0 m (upd H1 D (.lst []))) ∧ ∀ i m H, W i m H →
      (J.stop i H ∧ Qd H) ∨ (J.go i H ∧ ∃ Nx : Hp → Prop, (∀ H', Nx H' → ∃ m', m' < m ∧ W (i + 1) m' H') ∧ ∀ x H', J.yld i H x H' → g x (wipe σ vs) H' fun σ2 H2 => wipe σ2 vs = wipe σ vs ∧ tYes σ2 H2 fun b H3 =>
        if b = true then te σ2 H3 fun y H4 => ∃ acc, H4 D = some (.lst acc) ∧ acc.length < sizeLine ∧ Nx (upd H4 D (.lst (acc ++ [y]))) else Nx H3) := by
  refine lc_rel hD xs ss hlen (fun _ => true) T hT w hG hz (fun i x s H2 Qn Qs a1 a2 a3 a4 a5 _ => ?_) fun H2 ys a1 a2 a3 => k H2 ys a1 a2 ?_
  · exact turn i x s H2 Qn a1 a2 a3 a4 (a5 rfl)
  · rw [List.filter_eq_self.mpr fun _ _ => rfl] at a3
    exact a3
theorem walk_rangeN (n : Nat) : L2.Walk (Itr 0 n) ((List.range n).map vi).length (fun _ => True) (YAt ((List.range n).map vi)) := by
  have e : ((List.range n).map vi).length = n := by rw [List.length_map, List.length_range]
  rw [e]
  refine ⟨fun _ _ hi _ => hi, fun _ _ => Nat.le_refl _, fun i H x H' hi _ y => ⟨y.1, ?_⟩⟩
  rw [y.2, List.getElem?_map, List.getElem?_range hi]
  show some (V.int ((i : Nat) : Int)) = some (V.int (0 + (i : Nat)))
  rw [Int.zero_add]
end
theorem paired_fix {α : Type} {R : α → V → Prop} {xs : List α} {ys : List V} (h : Paired R xs ys) : Paired R xs ys := h
theorem paired_map {α β : Type} {R : β → V → Prop} {f : α → β} {xs : List α} {ys : List V} (h : Paired (fun x y => R (f x) y) xs ys) : Paired R (xs.map f) ys := by
  induction h with
  | nil => exact .nil
  | cons r t ih => exact .cons r ih
end Nsr
end
section
set_option Elab.async false
set_option linter.all false
set_option maxRecDepth 100000
set_option maxHeartbeats 4000000
set_option autoImplicit false
namespace Nsr
open PySem PySem.Spec PyProof.Rows L2
/-! ### lists of numbers -/
def zz (l : List Nat) : List Int := l.map fun a : Nat => (a : Int)
theorem zz_vi (l : List Nat) : (zz l).map V.int = l.map vi := by
  unfold zz
  rw [List.map_map]
  rfl
theorem zz_inj {l m : List Nat} (h : zz l = zz m) : l = m := by
  unfold zz at h
  exact (List.map_inj_right (f := fun a : Nat => (a : Int)) fun a b e => Int.ofNat.inj e).mp h
theorem zz_len (l : List Nat) : (zz l).length = l.length := List.length_map ..
theorem zz_sorted {ns : List Int} {l : List Nat} (hp : ns.Perm (zz l)) (hs : ns.Pairwise (· ≤ ·)) : ∃ l', ns = zz l' ∧ l'.Perm l ∧ l'.Pairwise (· ≤ ·) := by
  have h0 : ∀ x ∈ ns, ∃ a : Nat, x = (a : Int) := fun x hx => by
    obtain ⟨a, _, e⟩ := List.mem_map.mp (hp.mem_iff.mp hx)
    exact ⟨a, e.symm⟩
  have h1 : ns = zz (ns.map Int.toNat) := by
    unfold zz
    rw [List.map_map]
    have e : ns.map ((fun a : Nat => (a : Int)) ∘ Int.toNat) = ns.map id := List.map_congr_left fun x hx => by
      obtain ⟨a, rfl⟩ := h0 x hx
      rfl
    rw [e, List.map_id]
  refine ⟨ns.map Int.toNat, h1, ?_, ?_⟩
  · have := hp.map Int.toNat
    unfold zz at this
    rw [List.map_map] at this
    have e : l.map (Int.toNat ∘ fun a : Nat => (a : Int)) = l.map id := List.map_congr_left fun x _ => rfl
    rw [e, List.map_id] at this
    exact this
  · rw [List.pairwise_map]
    exact hs.imp fun {a b} q => by omega
theorem zz_eqv (l m : List Nat) : PyData.eqv (.list ((zz l).map PyData.int)) (.list ((zz m).map PyData.int)) = decide (l = m) := by
  rw [PyData.eqv]
  have key : ∀ ns ms : List Int, PyData.eqvAll (ns.map PyData.int) (ms.map PyData.int) = decide (ns = ms) := by
    intro ns
    induction ns with
    | nil => intro ms; cases ms <;> simp [PyData.eqvAll]
    | cons a r ih =>
      intro ms
      cases ms with
      | nil => simp [PyData.eqvAll]
      | cons b t =>
        rw [List.map_cons, List.map_cons, PyData.eqvAll, ih t, PyData.eqv]
        by_cases h1 : a = b <;> by_cases h2 : r = t <;> simp [h1, h2]
  rw [key]
  by_cases c : l = m
  · rw [c]
    simp
  · rw [decide_eq_false c, decide_eq_false fun z => c (zz_inj z)]
theorem dp_ints {K : PySem.W.Frag} {H : Hp} : ∀ l : List Nat, DpAll K H (l.map vi) ((zz l).map PyData.int)
  | [] => .nil
  | a :: l => .cons (.int _) (dp_ints l)
theorem dp_L {K : PySem.W.Frag} {H : Hp} {l : List Nat} {v : V} (h : IsL H l v) : Dp K H v (.list ((zz l).map PyData.int)) := by
  obtain ⟨p, rfl, e⟩ := h
  exact .lst (SqL.of e) (dp_ints l)
theorem dp_T {K : PySem.W.Frag} {H : Hp} {l : List Nat} {v : V} (h : IsT H l v) : Dp K H v (.tuple ((zz l).map PyData.int)) := by
  obtain ⟨p, rfl, e⟩ := h
  exact .tup (SqT.of e) (dp_ints l)
theorem depth_ints (ns : List Int) : PyData.depthAll (ns.map PyData.int) ≤ 1 := by
  induction ns with
  | nil => simp [PyData.depthAll]
  | cons a r ih =>
    rw [List.map_cons, PyData.depthAll, PyData.depth]
    omega
theorem canLay_ints (ns : List Int) : PyData.canLayAll0 (ns.map PyData.int) = true := by
  induction ns with
  | nil => simp [PyData.canLayAll0]
  | cons a r ih => rw [List.map_cons, PyData.canLayAll0, PyData.canLay0, ih] <;> rfl
theorem shaped_list (ns : List Int) : SeqAt.shaped (.list (ns.map PyData.int)) = true := by
  unfold SeqAt.shaped
  rw [PyData.canLay0, canLay_ints, PyData.depth]
  have := depth_ints ns
  simp
  omega
theorem shaped_tup (ns : List Int) : SeqAt.shaped (.tuple (ns.map PyData.int)) = true := by
  unfold SeqAt.shaped
  rw [PyData.canLay0, canLay_ints, PyData.depth]
  have := depth_ints ns
  simp
  omega
theorem zz_eqvT (l m : List Nat) : PyData.eqv (.tuple ((zz l).map PyData.int)) (.tuple ((zz m).map PyData.int)) = decide (l = m) := by
  have h := zz_eqv l m
  have e1 : PyData.eqv (.tuple ((zz l).map PyData.int)) (.tuple ((zz m).map PyData.int)) = PyData.eqvAll ((zz l).map PyData.int) ((zz m).map PyData.int) := by simp only [PyData.eqv]
  have e2 : PyData.eqv (.list ((zz l).map PyData.int)) (.list ((zz m).map PyData.int)) = PyData.eqvAll ((zz l).map PyData.int) ((zz m).map PyData.int) := by simp only [PyData.eqv]
  rw [e1, ← e2]
  exact h
/-! ### pairs -/
def tp (e : Nat × Nat) : List Int := [(e.1 : Int), (e.2 : Int)]
theorem tp_inj {e d : Nat × Nat} (h : tp e = tp d) : e = d := by
  obtain ⟨a, b⟩ := e
  obtain ⟨c, d⟩ := d
  unfold tp at h
  simp only [List.cons.injEq, and_true] at h
  have h1 : a = c := by omega
  have h2 : b = d := by omega
  rw [h1, h2]
theorem tp_V (e : Nat × Nat) : (tp e).map V.int = [vi e.1, vi e.2] := rfl
theorem keys_of {H : Hp} : ∀ {es : Es} {ys : List V}, Paired (IsP H) es ys → ∃ ks : List (Addr × List Int), ys = ks.map (fun p => V.ref p.1) ∧ ks.map (·.2) = es.map tp ∧ ∀ p ∈ ks, H p.1 = some (.tup (p.2.map V.int))
  | _, _, .nil => ⟨[], rfl, rfl, fun p hp => by cases hp⟩
  | e :: es, _, .cons r t => by
    obtain ⟨p, rfl, h⟩ := r
    obtain ⟨ks, h1, h2, h3⟩ := keys_of t
    refine ⟨(p, tp e) :: ks, by rw [h1]; rfl, by rw [List.map_cons, List.map_cons, h2], fun q hq => ?_⟩
    rcases List.mem_cons.mp hq with rfl | z
    · exact h
    · exact h3 q z
/-- the row behind the sort -/
theorem row_of {H : Hp} {es : Es} {ks : List (Addr × List Int)} : ∀ {L : List (Addr × List Int)}, ks.map (·.2) = es.map tp → (∀ q ∈ L, q ∈ ks) → (∀ q ∈ L, H q.1 = some (.tup (q.2.map V.int))) →
    ∃ E : Es, L.map (·.2) = E.map tp ∧ Paired (IsP H) E (L.map fun q => V.ref q.1)
  | [], _, _, _ => ⟨[], rfl, .nil⟩
  | q :: L, hk, hs, hh => by
    obtain ⟨E, h1, h2⟩ := row_of (L := L) hk (fun r hr => hs r (List.mem_cons_of_mem _ hr)) fun r hr => hh r (List.mem_cons_of_mem _ hr)
    have hm : q.2 ∈ es.map tp := by
      rw [← hk]
      exact List.mem_map.mpr ⟨q, hs q List.mem_cons_self, rfl⟩
    obtain ⟨e, _, he⟩ := List.mem_map.mp hm
    have hq := hh q List.mem_cons_self
    rw [← he] at hq
    exact ⟨e :: E, by rw [List.map_cons, List.map_cons, h1, he], .cons ⟨q.1, rfl, hq⟩ h2⟩
def norm (p : Nat × Nat) : Nat × Nat := (min p.1 p.2, max p.1 p.2)
theorem byPairs_of {ps E : Es} {ks L L' : List (Addr × List Int)} (hk : ks.map (·.2) = (ps.map norm).map tp) (h1 : ∀ p ∈ L, p ∈ ks) (h2 : ∀ p ∈ ks, p.2 ∈ L.map (·.2)) (pm : L'.Perm L) (nd : (L'.map (·.2)).Nodup) (he : L'.map (·.2) = E.map tp) : ByPairs ps E := by
  have mem : ∀ e, e ∈ E ↔ tp e ∈ L'.map (·.2) := fun e => by
    rw [he]
    constructor
    · intro h
      exact List.mem_map.mpr ⟨e, h, rfl⟩
    · intro h
      obtain ⟨d, hd, q⟩ := List.mem_map.mp h
      rw [← tp_inj q]
      exact hd
  refine ⟨fun e => ?_, ?_⟩
  · rw [mem e, (pm.map (·.2)).mem_iff]
    constructor
    · intro h
      obtain ⟨q, hq, eq⟩ := List.mem_map.mp h
      have : q.2 ∈ (ps.map norm).map tp := by
        rw [← hk]
        exact List.mem_map.mpr ⟨q, h1 q hq, rfl⟩
      obtain ⟨d, hd, q2⟩ := List.mem_map.mp this
      obtain ⟨p, hp, q3⟩ := List.mem_map.mp hd
      refine ⟨p, hp, ?_⟩
      rw [← tp_inj (q2.trans eq), ← q3]
      rfl
    · rintro ⟨p, hp, rfl⟩
      have : tp (norm p) ∈ ks.map (·.2) := by
        rw [hk]
        exact List.mem_map.mpr ⟨_, List.mem_map.mpr ⟨p, hp, rfl⟩, rfl⟩
      obtain ⟨q, hq, eq⟩ := List.mem_map.mp this
      have z := h2 q hq
      rw [eq] at z
      exact z
  · rw [he] at nd
    exact (List.pairwise_map.mp nd).imp fun {a b} h q => h (by rw [q])
/-! ### bounds -/
theorem nodup_len {α : Type} [DecidableEq α] : ∀ (l D : List α), l.Nodup → (∀ x ∈ l, x ∈ D) → l.length ≤ D.length := by
  intro l
  induction l with
  | nil => intro D _ _; exact Nat.zero_le _
  | cons x l ih =>
    intro D hn hs
    obtain ⟨h1, h2⟩ := List.nodup_cons.mp hn
    have hx : x ∈ D := hs x List.mem_cons_self
    have q := ih (D.erase x) h2 fun y hy => (List.mem_erase_of_ne (fun (e : y = x) => h1 (e ▸ hy))).2 (hs y (List.mem_cons_of_mem _ hy))
    have e := List.length_erase_of_mem hx
    have hp : 0 < D.length := List.length_pos_of_mem hx
    rw [List.length_cons]
    omega
def tri (n : Nat) : Es := (List.range n).flatMap fun b => (List.range b).map fun a => (a, b)
theorem mem_tri {n : Nat} {e : Nat × Nat} (h : e.1 < e.2 ∧ e.2 < n) : e ∈ tri n := by
  unfold tri
  rw [List.mem_flatMap]
  exact ⟨e.2, List.mem_range.mpr h.2, List.mem_map.mpr ⟨e.1, List.mem_range.mpr h.1, rfl⟩⟩
theorem Good.len {n : Nat} {E : Es} (g : Good n E) : E.length ≤ (tri n).length := nodup_len E (tri n) g.nd fun e he => mem_tri (g.lt e he)
theorem tri8 : ∀ n, n < 9 → (tri n).length ≤ 28 := by decide
theorem tri16 : ∀ n, n < 17 → (tri n).length ≤ 120 := by decide
theorem dbl_len (n : Nat) (E : Es) : (dblPairs n E).length = 2 * E.length := by
  unfold dblPairs
  induction E with
  | nil => rfl
  | cons e E ih =>
    rw [List.flatMap_cons, List.length_append, ih, List.length_cons]
    simp only [List.length_cons, List.length_nil]
    omega
/-! ### one web by its ties alone -/
theorem wk_ext {E F : Es} (h : ∀ u v, adj E u v = adj F u v) {s v k : Nat} : Wk E s v k ↔ Wk F s v k := ⟨fun w => w.mono fun u v a => (h u v).symm.trans a, fun w => w.mono fun u v a => (h u v).trans a⟩
theorem dist_ext {E F : Es} (h : ∀ u v, adj E u v = adj F u v) (s v : Nat) : dist E s v = dist F s v := by
  cases e : dist E s v with
  | none => exact (dist_none.mpr fun k w => dist_none.mp e k ((wk_ext h).mpr w)).symm
  | some k =>
    have q := dist_spec e
    exact (dist_eq ((wk_ext h).mp q.1) fun j hj w => q.2 j hj ((wk_ext h).mpr w)).symm
theorem girth_ext {E F : Es} (h : ∀ e, e ∈ E ↔ e ∈ F) : girth E = girth F := by
  have ad : ∀ t u v, adj (without E t) u v = adj (without F t) u v := fun t u v => by
    rw [Bool.eq_iff_iff, without_adj, without_adj, h, h]
  have mem : ∀ s, s ∈ ringL E ↔ s ∈ ringL F := fun s => by
    rw [ring_mem, ring_mem]
    constructor
    · rintro ⟨t, ht, k, e, r⟩
      exact ⟨t, (h t).mp ht, k, by rw [← dist_ext (ad t)]; exact e, r⟩
    · rintro ⟨t, ht, k, e, r⟩
      exact ⟨t, (h t).mpr ht, k, by rw [dist_ext (ad t)]; exact e, r⟩
  cases e : girth E with
  | none =>
    have z := girth_none.mp e
    refine (girth_none.mpr ?_).symm
    cases q : ringL F with
    | nil => rfl
    | cons a l =>
      have := (mem a).mpr (by rw [q]; exact List.mem_cons_self)
      rw [z] at this
      cases this
  | some s =>
    obtain ⟨h1, h2⟩ := girth_some e
    exact (girth_of ((mem s).mp h1) fun x hx => h2 x ((mem x).mpr hx)).symm
theorem byPairs_same {ps E F : Es} (h : ByPairs ps E) (k : ByPairs ps F) : girth E = girth F := girth_ext fun e => (h.mem e).trans (k.mem e).symm
end Nsr
end
section
set_option Elab.async false
set_option linter.all false
set_option maxRecDepth 100000
set_option maxHeartbeats 4000000
set_option autoImplicit false
namespace Nsr
open PySem PySem.Spec PyProof.Rows L2
def sp_is_whole : Sp := fun vs H Q _ => ∃ i : Int, vs = [.int i] ∧ Q (.bl true) H
def sp_is_upto : Sp := fun vs H Q _ => ∃ i lo hi : Int, vs = [.int i, .int lo, .int hi] ∧ Q (.bl (decide (lo ≤ i) && decide (i ≤ hi))) H
def sp_is_place : Sp := fun vs H Q _ => ∃ (v : V) (n : Nat) (E : Es) (p : Nat), vs = [v, vi p] ∧ IsW H v n E ∧ p < n ∧ Q (.bl true) H
def sp_check_place : Sp := fun vs H Q _ => ∃ (v : V) (n : Nat) (E : Es) (p : Nat), vs = [v, vi p] ∧ IsW H v n E ∧ p < n ∧ Q .non H
section
variable {P : Program} {w : World} {K : PySem.W.Frag} {mg : Str → Option Value} {base : Heap}
abbrev N_is_whole : List Str := ["thing"]
theorem sc_is_whole : FnScope N_is_whole ["thing"] (defScope x_is_whole) := ⟨rfl, rfl, rfl, by decide +kernel, rfl, by decide +kernel, by decide +kernel⟩
theorem ok_is_whole (D : DefAt K mg "is_whole" x_is_whole ["thing"]) (B : Free mg) : Cal P w K mg base 1 "is_whole" ["thing"] sp_is_whole := by
  refine D.ok sc_is_whole (fun vs H Q E h => ?_) (fun f cdv A outer s H vs Q E hr h => ?_)
  · obtain ⟨i, rfl, _⟩ := h
    rfl
  · obtain ⟨i, rfl, q⟩ := h
    refine ⟨_, (pss_one (ps_ret (pe_and (pe_callB call_isi (by rfl) B.isinstance (by decide +kernel) (pa_cons (pv 0) (pa_cons (pe_bltn (v := .ty "int") (by rfl) B.int (by decide +kernel) rfl) pa_nil))) (pe_one (pe_not (pe_callB call_isi (by rfl) B.isinstance (by decide +kernel) (pa_cons (pv 0) (pa_cons (pe_bltn (v := .ty "bool") (by rfl) B.bool (by decide +kernel) rfl) pa_nil)))))))), ?_⟩
    refine ⟨_, rfl, _, _, .type "int", .type "int", true, rfl, .ty "int", .base (.int i), kit_ty (by decide +kernel), true, rfl, iteT ?_⟩
    exact ⟨_, rfl, _, _, .type "int", .type "bool", false, rfl, .ty "bool", .base (.int i), kit_ty (by decide +kernel), false, rfl, q⟩
abbrev N_is_upto : List Str := ["thing", "low", "high"]
theorem sc_is_upto : FnScope N_is_upto ["thing", "low", "high"] (defScope x_is_upto) := ⟨rfl, rfl, rfl, by decide +kernel, rfl, by decide +kernel, by decide +kernel⟩
theorem ok_is_upto (D : DefAt K mg "is_upto" x_is_upto ["thing", "low", "high"]) (B : Free mg) (C_is_whole : Cal P w K mg base 1 "is_whole" ["thing"] sp_is_whole) : Cal P w K mg base 2 "is_upto" ["thing", "low", "high"] sp_is_upto := by
  refine D.ok sc_is_upto (fun vs H Q E h => ?_) (fun f cdv A outer s H vs Q E hr h => ?_)
  · obtain ⟨i, lo, hi, rfl, _⟩ := h
    rfl
  · obtain ⟨i, lo, hi, rfl, q⟩ := h
    refine ⟨_, (pss_one (ps_ret (pe_and (pe_cal C_is_whole hr (by decide) (by rfl) (pa_cons (pv 0) pa_nil)) (pe_one (pe_chain op_le op_le (pv 1) (pv 0) (pv 2)))))), ?_⟩
    refine ⟨_, rfl, i, rfl, true, rfl, iteT ?_⟩
    refine ⟨_, rfl, _, rfl, lo, i, rfl, rfl, decide (lo ≤ i), rfl, ?_⟩
    by_cases c : lo ≤ i
    · rw [decide_eq_true c] at q ⊢
      exact iteT ⟨_, rfl, i, hi, rfl, rfl, q⟩
    · rw [decide_eq_false c] at q ⊢
      exact iteF q
abbrev N_is_place : List Str := ["web", "thing"]
theorem sc_is_place : FnScope N_is_place ["web", "thing"] (defScope x_is_place) := ⟨rfl, rfl, rfl, by decide +kernel, rfl, by decide +kernel, by decide +kernel⟩
theorem ok_is_place (D : DefAt K mg "is_place" x_is_place ["web", "thing"]) (B : Free mg) (C_is_upto : Cal P w K mg base 2 "is_upto" ["thing", "low", "high"] sp_is_upto) : Cal P w K mg base 3 "is_place" ["web", "thing"] sp_is_place := by
  refine D.ok sc_is_place (fun vs H Q E h => ?_) (fun f cdv A outer s H vs Q E hr h => ?_)
  · obtain ⟨v, n, E, p, rfl, _⟩ := h
    rfl
  · obtain ⟨v, n, E, p, rfl, ⟨a, t, rfl, ha, ht⟩, hp, q⟩ := h
    refine ⟨_, (pss_one (ps_ret (pe_cal C_is_upto hr (by decide) (by rfl) (pa_cons (pv 1) (pa_cons pe_int (pa_cons (pe_op op_sub (pe_ix (ix_tupK (K := K) rfl) (pv 0) pe_int (fun _ _ => rfl)) pe_int) pa_nil)))))), ?_⟩
    refine ⟨_, rfl, _, rfl, a, _, 0, _, rfl, rfl, SqT.of ha, rfl, (n : Int), 1, rfl, rfl, ?_⟩
    refine ⟨(p : Int), 0, (n : Int) - 1, rfl, ?_⟩
    rw [decide_eq_true (by omega), decide_eq_true (by omega)]
    exact q
abbrev N_check_place : List Str := ["web", "place"]
theorem sc_check_place : FnScope N_check_place ["web", "place"] (defScope x_check_place) := ⟨rfl, rfl, rfl, by decide +kernel, rfl, by decide +kernel, by decide +kernel⟩
theorem ok_check_place (D : DefAt K mg "check_place" x_check_place ["web", "place"]) (B : Free mg) (C_is_place : Cal P w K mg base 3 "is_place" ["web", "thing"] sp_is_place) : Cal P w K mg base 4 "check_place" ["web", "place"] sp_check_place := by
  refine D.ok sc_check_place (fun vs H Q E h => ?_) (fun f cdv A outer s H vs Q E hr h => ?_)
  · obtain ⟨v, n, E, p, rfl, _⟩ := h
    rfl
  · obtain ⟨v, n, E, p, rfl, hw, hp, q⟩ := h
    refine ⟨_, (pss_one (ps_if (pt_not (pt_val (pe_cal C_is_place hr (by decide) (by rfl) (pa_cons (pv 0) (pa_cons (pv 1) pa_nil))))) (pss_one ps_never) pss_nil)), ?_⟩
    refine ⟨_, rfl, _, rfl, v, n, E, p, rfl, hw, hp, true, rfl, ?_⟩
    exact iteF q
end
end Nsr
end
section
set_option Elab.async false
set_option linter.all false
set_option maxRecDepth 100000
set_option maxHeartbeats 4000000
set_option autoImplicit false
namespace Nsr
open PySem PySem.Spec PyProof.Rows L2
def sp_web_with : Sp := fun vs H Q _ => ∃ (m : Nat) (l : Addr) (ys : List V) (ps : Es), vs = [vi m, .ref l] ∧ H l = some (.lst ys) ∧ Paired (IsP H) ps ys ∧ ps.length < 64 ∧ (∀ p ∈ ps, p.1 < 64 ∧ p.2 < 64) ∧
  ∀ v H' E, Ex H H' → ByPairs ps E → IsW H' v m E → Q v H'
def sp_nears_of : Sp := fun vs H Q _ => ∃ (v : V) (n : Nat) (E : Es), vs = [v] ∧ IsW H v n E ∧ Good n E ∧ n ≤ 16 ∧ Ret (fun u H' => IsLL H' ((List.range n).map (nb n E)) u) H Q
theorem natMin (a b : Nat) : min (a : Int) (b : Int) = ((min a b : Nat) : Int) := by omega
theorem natMax (a b : Nat) : max (a : Int) (b : Int) = ((max a b : Nat) : Int) := by omega
section
variable {P : Program} {w : World} {K : PySem.W.Frag} {mg : Str → Option Value} {base : Heap}
abbrev N_web_with : List Str := ["many", "pairs", "pair"]
theorem sc_web_with : FnScope N_web_with ["many", "pairs"] (defScope x_web_with) := ⟨rfl, rfl, rfl, by decide +kernel, rfl, by decide +kernel, by decide +kernel⟩
theorem ok_web_with (D : DefAt K mg "web_with" x_web_with ["many", "pairs"]) (B : Free mg) : Cal P w K mg base 1 "web_with" ["many", "pairs"] sp_web_with := by
  refine D.ok sc_web_with (fun vs H Q E h => ?_) (fun f cdv A outer s H vs Q E hr h => ?_)
  · obtain ⟨m, l, ys, ps, rfl, _⟩ := h
    rfl
  · obtain ⟨m, l, ys, ps, rfl, hl, hp, h64, hb, q⟩ := h
    refine ⟨_, (pss_one (ps_ret (pe_tup (pa_cons (pv 0) (pa_cons (pe_callTy call_tuple_of (by rfl) B.tuple (by decide +kernel) (pa_cons (pe_callB (cr_sortedT (by rfl)) (by rfl) B.sorted (by decide +kernel) (pa_cons (pe_callTy (cr_setOfT (by rfl) hr.units) (by rfl) B.set (by decide +kernel) (pa_cons (pe_lc (own := [("pair", 2)]) (g := gName 2) (tt := tYes) (by rfl) sc_web_with.nd (pi_listK (K := K) rfl (pv 1)) (blkOk_by (N := N_web_with) (sc := defScope x_web_with) (own := [("pair", 2)]) (by decide +kernel)) (fun _ _ _ _ _ => (pg_name (i := 2) sc_web_with.nd rfl (Or.inl rfl))) (fun _ _ _ _ _ => pts_nil) (fun _ _ _ _ _ => (pe_tup (pa_cons (pe_callB (minTK (K := K) rfl (by rfl) hr.units) (by rfl) B.min (by decide +kernel) (pa_cons (pv 2) pa_nil)) (pa_cons (pe_callB (maxTK (K := K) rfl (by rfl) hr.units) (by rfl) B.max (by decide +kernel) (pa_cons (pv 2) pa_nil)) pa_nil))))) pa_nil)) pa_nil)) pa_nil)) pa_nil))))), ?_⟩
    refine ⟨_, rfl, _, rfl, l, rfl, ⟨ys, SqL.of hl⟩, fun D hD => ?_⟩
    refine lc_all hD ps ys (rel_len hp) (fun p y H => IsP H (norm p) y) (fun x y H H' e h => h.mono (Ex.t e)) (walk_list (K := K)) (fun H' e => Evl.ex_l e (SqL.of hl)) (by rw [← rel_len hp]; omega) (fun i p s H2 Qn hx hs hy e k => ?_) fun H2 zs e hd hz => ?_
    · obtain ⟨z, hz, a, rfl, ha⟩ := rel_get hp hx
      have es : s = .ref a := Option.some.inj (hs.symm.trans hz)
      subst es
      have ha2 := e _ _ ha
      refine ⟨rfl, _, rfl, a, p.1, p.2, rfl, SqT.of ha2, _, rfl, a, p.1, p.2, rfl, SqT.of ha2, by show 2 ≤ sizeLine; decide, fun t ht => ?_⟩
      obtain ⟨e3, h3⟩ := new2 ht (.tup [.int (min (p.1 : Int) (p.2 : Int)), .int (max (p.1 : Int) (p.2 : Int))])
      refine k _ _ e3 ⟨t, rfl, ?_⟩
      obtain ⟨us, hus⟩ := hy
      rw [natMin, natMax] at e3 h3 ⊢
      exact del_tup (e3 _ _ hus) _ _ h3
    · obtain ⟨ks, rfl, hk2, hk3⟩ := keys_of (es := ps.map norm) (H := H2) (ys := zs) (paired_map (R := IsP H2) hz)
      have kl : ks.length = ps.length := by
        have := congrArg List.length hk2
        simpa using this
      refine ⟨D, ks, rfl, SqL.of hd, fun p hp => SqT.of (hk3 p hp), by omega, fun s L hs hL1 hL2 => ?_⟩
      have e2 : Ex H2 (upd H2 s (SetTO P w s L)) := Evl.Ex.new hs
      refine ⟨s, L, 2, 64, rfl, upd_same, fun p hp => SqT.of (e2 _ _ (hk3 p (hL1 p hp))), by decide, fun p hp => ?_, fun L' t pm nd l64 pw ht => ?_⟩
      · have hm : p.2 ∈ (ps.map norm).map tp := by
          rw [← hk2]
          exact List.mem_map.mpr ⟨p, hL1 p hp, rfl⟩
        obtain ⟨d, hd, q2⟩ := List.mem_map.mp hm
        obtain ⟨r, hr, q3⟩ := List.mem_map.mp hd
        have b := hb r hr
        rw [← q2, ← q3]
        refine ⟨rfl, fun x hx => ?_⟩
        unfold tp norm at hx
        simp only [List.mem_cons, List.not_mem_nil, or_false] at hx
        omega
      · have e3 : Ex (upd H2 s (SetTO P w s L)) (upd (upd H2 s (SetTO P w s L)) t (.lst (L'.map fun q => V.ref q.1))) := Evl.Ex.new ht
        obtain ⟨E, h1, h2⟩ := row_of (H := upd (upd H2 s (SetTO P w s L)) t (.lst (L'.map fun q => V.ref q.1))) (L := L') hk2 (fun r hr => hL1 r (pm.mem_iff.mp hr)) fun r hr => e3 _ _ (e2 _ _ (hk3 r (hL1 r (pm.mem_iff.mp hr))))
        refine ⟨t, _, rfl, .inl ⟨SqL.of upd_same, fun u hu => ?_⟩⟩
        obtain ⟨e5, h5⟩ := new2 hu (.tup (L'.map fun q => V.ref q.1))
        refine ⟨by show 2 ≤ sizeLine; decide, fun a ha => ?_⟩
        obtain ⟨e6, h6⟩ := new2 ha (.tup [vi m, V.ref u])
        refine q _ _ E (((e.trans e2).trans e3).trans (e5.trans e6)) (byPairs_of hk2 hL1 hL2 pm nd h1) ⟨a, u, rfl, h6, _, e6 _ _ h5, rel_mono h2 fun x y z => z.mono (Ex.t (e5.trans e6))⟩
/-- the lists of nears_of as they grow: as their places, L what each holds -/
structure Grow (H0 H : Hp) (f : Addr) (n : Nat) (as : List Addr) (L : Nat → List Nat) : Prop where
  ex : Ex H0 H
  f0 : H0 f = none
  hf : H f = some (.lst (as.map V.ref))
  len : as.length = n
  nd : as.Nodup
  new : ∀ a ∈ as, H0 a = none ∧ a ≠ f
  held : ∀ (j : Nat) (a : Addr), as[j]? = some a → H a = some (.lst ((L j).map vi))
theorem Grow.put {H0 H H1 : Hp} {f : Addr} {n : Nat} {as : List Addr} {L : Nat → List Nat} (g : Grow H0 H f n as L) (e : Ex H H1) {j x : Nat} {a : Addr} (ha : as[j]? = some a) :
    Grow H0 (upd H1 a (.lst ((L j).map vi ++ [vi x]))) f n as (fun i => if i = j then L j ++ [x] else L i) := by
  have hm := List.mem_of_getElem? ha
  refine ⟨Evl.Ex.mut (g.ex.trans e) (g.new a hm).1, g.f0, ?_, g.len, g.nd, g.new, fun i b hb => ?_⟩
  · rw [upd_ne (g.new a hm).2.symm]
    exact e _ _ g.hf
  · by_cases c : i = j
    · subst c
      have : a = b := Option.some.inj (ha.symm.trans hb)
      subst this
      rw [upd_same, if_pos rfl, List.map_append]
      rfl
    · have ne : b ≠ a := fun z => by
        obtain ⟨hi, ei⟩ := List.getElem?_eq_some_iff.mp hb
        obtain ⟨hj, ej⟩ := List.getElem?_eq_some_iff.mp ha
        refine c ?_
        have key : as[i] = as[j] := by rw [ei, ej, z]
        rcases Nat.lt_trichotomy i j with l | l | l
        · exact absurd key (List.pairwise_iff_getElem.mp g.nd i j hi hj l)
        · exact l
        · exact absurd key.symm (List.pairwise_iff_getElem.mp g.nd j i hj hi l)
      rw [upd_ne ne, if_neg c]
      exact e _ _ (g.held i b hb)
theorem Grow.same {H0 H : Hp} {f : Addr} {n : Nat} {as : List Addr} {L M : Nat → List Nat} (g : Grow H0 H f n as L) (h : ∀ j, L j = M j) : Grow H0 H f n as M := by
  have e : L = M := funext h
  rw [← e]
  exact g
theorem tie_step (L : Nat → List Nat) (a b : Nat) (h : a ≠ b) (j : Nat) : (if j = b then (if b = a then L a ++ [b] else L b) ++ [a] else if j = a then L a ++ [b] else L j) = L j ++ tieAt (a, b) j := by
  unfold tieAt
  by_cases h1 : j = b
  · subst h1
    have h' : ¬ j = a := fun z => h z.symm
    simp [h, h']
  · by_cases h2 : j = a
    · subst h2
      have h' : ¬ b = j := fun z => h1 z.symm
      simp [h1, h']
    · have h3 : ¬ a = j := fun z => h2 z.symm
      have h4 : ¬ b = j := fun z => h1 z.symm
      simp [h1, h2, h3, h4]
abbrev N_nears_of : List Str := ["web", "found", "place", "one", "other", "some"]
theorem sc_nears_of : FnScope N_nears_of ["web"] (defScope x_nears_of) := ⟨rfl, rfl, rfl, by decide +kernel, rfl, by decide +kernel, by decide +kernel⟩
theorem ok_nears_of (D : DefAt K mg "nears_of" x_nears_of ["web"]) (B : Free mg) : Cal P w K mg base 1 "nears_of" ["web"] sp_nears_of := by
  refine D.ok sc_nears_of (fun vs H Q E h => ?_) (fun f cdv A outer s H vs Q E hr h => ?_)
  · obtain ⟨v, n, E, rfl, _⟩ := h
    rfl
  · obtain ⟨v, n, E, rfl, ⟨a, t, rfl, ha, ts, ht, hts⟩, hg, h16, q⟩ := h
    refine ⟨_, (pss_cons (ps_setLc (i := 1) (own := [("place", 2)]) (g := gName 2) (tt := tYes) (by rfl) sc_nears_of.nd rfl rfl (sw_true rfl rfl rfl (by decide +kernel)) (pi_range1 (by rfl) B.range (pa_cons (pe_ix (ix_tupK (K := K) rfl) (pv 0) pe_int (fun _ _ => rfl)) pa_nil)) (blkOk_by (N := N_nears_of) (sc := defScope x_nears_of) (own := [("place", 2)]) (by decide +kernel)) (fun _ _ _ _ _ => (pg_name (i := 2) sc_nears_of.nd rfl (Or.inl rfl))) (fun _ _ _ _ _ => pts_nil) (fun _ _ _ _ _ => (pe_lst pa_nil)))
      (pss_cons (ps_for PassesOwn.never rfl (pi_tupK (K := K) rfl (pe_ix (ix_tupK (K := K) rfl) (pv 0) pe_int (fun _ _ => rfl))) (pg_tupK (K := K) rfl (pg_tup rfl (pgs_cons (pg_name (i := 3) sc_nears_of.nd rfl (Or.inl rfl)) (pgs_cons (pg_name (i := 4) sc_nears_of.nd rfl (Or.inl rfl)) pgs_nil)))) (pss_cons (ps_expr (pe_bmK (K := K) rfl (pe_bm PySem.F.plainAttrs_list PySem.F.slot_list_append PySem.F.type_list_append mt_append (pe_ix (ix_listK (K := K) rfl) (pv 1) (pv 3) (fun _ _ => rfl)) (pa_cons (pv 4) pa_nil))))
      (pss_one (ps_expr (pe_bmK (K := K) rfl (pe_bm PySem.F.plainAttrs_list PySem.F.slot_list_append PySem.F.type_list_append mt_append (pe_ix (ix_listK (K := K) rfl) (pv 1) (pv 4) (fun _ _ => rfl)) (pa_cons (pv 3) pa_nil)))))))
      (pss_one (ps_ret (pe_lc (own := [("some", 5)]) (g := gName 5) (tt := tYes) (by rfl) sc_nears_of.nd (pi_listK (K := K) rfl (pv 1)) (blkOk_by (N := N_nears_of) (sc := defScope x_nears_of) (own := [("some", 5)]) (by decide +kernel)) (fun _ _ _ _ _ => (pg_name (i := 5) sc_nears_of.nd rfl (Or.inl rfl))) (fun _ _ _ _ _ => pts_nil) (fun _ _ _ _ _ => (pe_callB (sortedK (K := K) rfl) (by rfl) B.sorted (by decide +kernel) (pa_cons (pv 5) pa_nil)))))))), ?_⟩
    -- found = [[] for place in range(web[0])]
    refine ⟨_, rfl, a, _, 0, _, rfl, rfl, SqT.of ha, rfl, (n : Int), rfl, by omega, by omega, fun f hf => ?_⟩
    refine lc_range (lo := 0) (n := ((n : Nat) : Int).toNat) (fun i H' => ∃ as, Grow H H' f i as (fun _ => [])) ⟨[], ⟨Evl.Ex.new hf, hf, upd_same, rfl, List.nodup_nil, fun a h => (nomatch h), fun j a h => (nomatch h)⟩⟩ (fun i H' hi ⟨as, g⟩ => ?_) fun H' ⟨as, g⟩ => ?_
    · refine ⟨rfl, tYes_go ?_⟩
      refine ⟨Nat.zero_le _, fun p hp => ?_⟩
      obtain ⟨e3, h3⟩ := new2 hp (.lst [])
      refine ⟨_, e3 _ _ g.hf, small1000 (by rw [List.length_map, g.len]; omega), as ++ [p], ?_⟩
      have npf : p ≠ f := fun z => by
        rw [z, g.hf] at hp
        cases hp
      have hp0 : H p = none := Evl.fresh_back g.ex hp
      have npa : p ∉ as := fun z => by
        obtain ⟨j, hj⟩ := List.getElem?_of_mem z
        rw [g.held j p hj] at hp
        cases hp
      refine ⟨Evl.Ex.mut (g.ex.trans e3) hf, hf, ?_, ?_, ?_, fun b hb => ?_, fun j b hb => ?_⟩
      · rw [upd_same, List.map_append]
        rfl
      · rw [List.length_append, g.len]
        rfl
      · rw [List.nodup_append]
        refine ⟨g.nd, by simp, fun x hx y hy z => npa ?_⟩
        have : y = p := by simpa using hy
        rw [← this, ← z]
        exact hx
      · rcases List.mem_append.mp hb with z | z
        · exact g.new b z
        · have : b = p := by simpa using z
          rw [this]
          exact ⟨hp0, npf⟩
      · rcases Nat.lt_or_ge j as.length with l | l
        · rw [List.getElem?_append_left l] at hb
          have := g.held j b hb
          rw [upd_ne (g.new b (List.mem_of_getElem? hb)).2]
          exact e3 _ _ this
        · have hl := (List.getElem?_eq_some_iff.mp hb).1
          rw [List.length_append, List.length_singleton] at hl
          rw [show j = as.length by omega, List.getElem?_append_right (Nat.le_refl _)] at hb
          have : p = b := by simpa using hb
          rw [← this, upd_ne npf]
          exact h3
    · have en : (((n : Nat) : Int).toNat) = n := Int.toNat_natCast n
      rw [en] at g
      have ha' := g.ex _ _ ha
      -- for one, other in web[1]
      refine ⟨_, rfl, a, _, 1, _, rfl, rfl, SqT.of ha', rfl, t, rfl, ⟨ts, SqT.of (g.ex _ _ ht)⟩, ?_⟩
      refine for_tup (K := K) (a := t) (xs := ts) (fun i σ' H' => ∃ y2 y3 y4 y5, σ' = [some (.ref a), some (.ref f), y2, y3, y4, y5] ∧ Grow H H' f n as (rawNb (E.take i))) ⟨_, _, _, _, rfl, g⟩ (fun i σ' H' _ ⟨_, _, _, _, _, g⟩ => SqT.of (g.ex _ _ ht)) (fun i x σ' H' hx ⟨y2, y3, y4, y5, es, g⟩ => ?_) (fun σ' H' ⟨y2, y3, y4, y5, es, g⟩ => ?_)
      · subst es
        obtain ⟨e, he, p, rfl, hp⟩ := rel_get' hts hx
        have lt := hg.lt e (List.mem_of_getElem? he)
        have e1l : e.1 < as.length := by rw [g.len]; omega
        have e2l : e.2 < as.length := by rw [g.len]; omega
        have g1 : as[e.1]? = some as[e.1] := List.getElem?_eq_getElem e1l
        have g2 : as[e.2]? = some as[e.2] := List.getElem?_eq_getElem e2l
        refine ⟨p, _, rfl, SqT.of (g.ex _ _ hp), rfl, vi e.1, [vi e.2], rfl, vi e.2, [], rfl, rfl, ?_⟩
        -- found[one].append(other)
        have i1 : atI (as.map V.ref) ((e.1 : Nat) : Int) = some (V.ref as[e.1]) := at_nat (by rw [List.getElem?_map, g1]; rfl)
        refine ⟨_, rfl, _, rfl, f, _, _, _, rfl, rfl, SqL.of g.hf, i1, .inl ⟨rfl, _, SqL.of (g.held _ _ g1)⟩, _, rfl, _, _, _, rfl, rfl, g.held _ _ g1, ?_, ?_⟩
        · have := rawNb_len2 (E.take i) e.1
          have h2 := hg.len
          have h3 := tri16 n (by omega)
          rw [List.length_map]
          refine small1000 ?_
          rw [List.length_take] at this
          omega
        · have G1 := g.put (Evl.Ex.refl H') (x := e.2) g1
          have i2 : atI (as.map V.ref) ((e.2 : Nat) : Int) = some (V.ref as[e.2]) := at_nat (by rw [List.getElem?_map, g2]; rfl)
          refine ⟨_, rfl, _, rfl, f, _, _, _, rfl, rfl, SqL.of G1.hf, i2, .inl ⟨rfl, _, SqL.of (G1.held _ _ g2)⟩, _, rfl, _, _, _, rfl, rfl, G1.held _ _ g2, ?_, ?_⟩
          · have := rawNb_len2 (E.take i) e.2
            have h2 := hg.len
            have h3 := tri16 n (by omega)
            have ne : ¬ e.2 = e.1 := by omega
            rw [List.length_map, if_neg ne]
            refine small1000 ?_
            rw [List.length_take] at this
            omega
          · have G2 := G1.put (Evl.Ex.refl _) (x := e.1) g2
            refine ⟨_, _, _, _, rfl, G2.same fun j => ?_⟩
            have tk : E.take (i + 1) = E.take i ++ [e] := by rw [List.take_add_one, he]; rfl
            rw [tk, rawNb_snoc]
            exact tie_step (rawNb (E.take i)) e.1 e.2 (by omega) j
      · subst es
        have tkl : E.take ts.length = E := by rw [← rel_len hts, List.take_length]
        rw [tkl] at g
        -- return [sorted(some) for some in found]
        refine ⟨_, rfl, f, rfl, ⟨_, SqL.of g.hf⟩, fun D hD => ?_⟩
        refine lc_all hD (List.range n) (as.map V.ref) (by rw [List.length_range, List.length_map, g.len]) (fun j y H => IsL H (nb n E j) y) (fun x y H H' e h => h.mono e) (walk_list (K := K)) (fun H2 e => Evl.ex_l e (SqL.of g.hf)) (by rw [List.length_map, g.len]; omega) (fun j j' s H2 Qn hx hs hy e k => ?_) fun H2 zs e hd hz => ?_
        · have ej : j' = j := by
            obtain ⟨hl, q⟩ := List.getElem?_eq_some_iff.mp hx
            rw [List.getElem_range] at q
            exact q.symm
          subst ej
          rw [List.getElem?_map] at hs
          obtain ⟨b, hb, eb⟩ := Option.map_eq_some_iff.mp hs
          subst eb
          have hb2 := e _ _ (g.held _ _ hb)
          rw [← zz_vi] at hb2
          refine ⟨rfl, _, rfl, b, zz (rawNb E j'), rfl, SqL.of hb2, ?_, fun ns' p pm pw hp => ?_⟩
          · have := rawNb_len hg j'
            rw [zz_len]
            omega
          · obtain ⟨l', rfl, p1, p2⟩ := zz_sorted pm pw
            have el := sorted_nb hg j' p1 p2
            subst el
            have e5 := Evl.Ex.new (o := .lst ((zz (nb n E j')).map V.int)) hp
            refine k _ _ e5 ⟨p, rfl, ?_⟩
            obtain ⟨us, hus⟩ := hy
            have npD : p ≠ D := fun z => by
              rw [z, hus] at hp
              cases hp
            rw [del_ne npD, upd_same, zz_vi]
        · refine q _ _ (g.ex.trans e) ⟨D, zs, rfl, hd, paired_map (R := IsL H2) hz⟩
end
end Nsr
end
section
set_option Elab.async false
set_option linter.all false
set_option maxRecDepth 100000
set_option maxHeartbeats 4000000
set_option autoImplicit false
namespace Nsr
open PySem PySem.Spec PyProof.Rows L2
def sp_near_of : Sp := fun vs H Q _ => ∃ (v : V) (n : Nat) (E : Es) (p : Nat), vs = [v, vi p] ∧ IsW H v n E ∧ Good n E ∧ n ≤ 16 ∧ p < n ∧ Ret (fun u H' => IsT H' (nb n E p) u) H Q
def sp_fars : Sp := fun vs H Q _ => ∃ (v : V) (n : Nat) (E : Es) (p : Nat), vs = [v, vi p] ∧ IsW H v n E ∧ Good n E ∧ n ≤ 16 ∧ p < n ∧ Ret (fun u H' => IsF H' n (dist E p) u ∧ ∀ a, u = .ref a → H a = none) H Q
def tab (n : Nat) (F : Nat → Option Nat) : List V := (List.range n).map fun i => oV (F i)
theorem tab_len (n : Nat) (F : Nat → Option Nat) : (tab n F).length = n := by
  unfold tab
  rw [List.length_map, List.length_range]
theorem tab_get {n : Nat} {F : Nat → Option Nat} {j : Nat} (h : j < n) : (tab n F)[j]? = some (oV (F j)) := by
  unfold tab
  rw [List.getElem?_map, List.getElem?_range h]
  rfl
theorem tab_set {n : Nat} {F : Nat → Option Nat} {j k : Nat} (h : j < n) : (tab n F).set j (vi k) = tab n (fun x => if x = j then some k else F x) := by
  refine List.ext_getElem? fun i => ?_
  rcases Nat.lt_or_ge i n with l | l
  · rw [tab_get l, List.getElem?_set, tab_len]
    by_cases c : j = i
    · subst c
      rw [if_pos rfl, if_pos h, if_pos rfl]
      rfl
    · rw [if_neg c, tab_get l, if_neg fun z => c z.symm]
  · rw [List.getElem?_eq_none (by rw [List.length_set, tab_len]; exact l), List.getElem?_eq_none (by rw [tab_len]; exact l)]
theorem tab_init (n : Nat) : (List.replicate n [V.non]).flatten = tab n (fun _ => none) := by
  unfold tab
  induction n with
  | zero => rfl
  | succ n ih =>
    rw [List.replicate_succ', List.flatten_append, ih, List.range_succ, List.map_append]
    rfl
theorem ixN_ok {n j : Nat} (h : j < n) : ixN n (j : Int) = some j := Evl.ixN_nat h
theorem LL_get {H : Hp} {v : V} {n : Nat} {g : Nat → List Nat} (h : IsLL H ((List.range n).map g) v) {j : Nat} (hj : j < n) : ∃ p vs b, v = .ref p ∧ H p = some (.lst vs) ∧ vs[j]? = some (.ref b) ∧ H b = some (.lst ((g j).map vi)) := by
  obtain ⟨p, vs, rfl, h1, h2⟩ := h
  have e : ((List.range n).map g)[j]? = some (g j) := by
    rw [List.getElem?_map, List.getElem?_range hj]
    rfl
  obtain ⟨y, hy, b, rfl, hb⟩ := rel_get h2 e
  exact ⟨p, vs, b, rfl, h1, hy, hb⟩
section
variable {P : Program} {w : World} {K : PySem.W.Frag} {mg : Str → Option Value} {base : Heap}
abbrev N_near_of : List Str := ["web", "place"]
theorem sc_near_of : FnScope N_near_of ["web", "place"] (defScope x_near_of) := ⟨rfl, rfl, rfl, by decide +kernel, rfl, by decide +kernel, by decide +kernel⟩
theorem ok_near_of (D : DefAt K mg "near_of" x_near_of ["web", "place"]) (B : Free mg) (C_nears_of : Cal P w K mg base 1 "nears_of" ["web"] sp_nears_of) (C_check_place : Cal P w K mg base 4 "check_place" ["web", "place"] sp_check_place) : Cal P w K mg base 5 "near_of" ["web", "place"] sp_near_of := by
  refine D.ok sc_near_of (fun vs H Q E h => ?_) (fun f cdv A outer s H vs Q E hr h => ?_)
  · obtain ⟨v, n, E, p, rfl, _⟩ := h
    rfl
  · obtain ⟨v, n, E, p, rfl, hw, hg, h16, hp, q⟩ := h
    refine ⟨_, (pss_cons (ps_expr (pe_cal C_check_place hr (by decide) (by rfl) (pa_cons (pv 0) (pa_cons (pv 1) pa_nil))))
      (pss_one (ps_ret (pe_callTy call_tuple_of (by rfl) B.tuple (by decide +kernel) (pa_cons (pe_ix (ix_listK (K := K) rfl) (pe_cal C_nears_of hr (by decide) (by rfl) (pa_cons (pv 0) pa_nil)) (pv 1) (fun _ _ => rfl)) pa_nil))))), ?_⟩
    refine ⟨_, rfl, _, rfl, v, n, E, p, rfl, hw, hp, ?_⟩
    refine ⟨_, rfl, v, n, E, rfl, hw, hg, h16, fun u H1 e1 hu => ?_⟩
    obtain ⟨pl, vs, b, rfl, hl, hv, hb⟩ := LL_get hu hp
    refine ⟨_, rfl, pl, vs, p, _, rfl, rfl, SqL.of hl, at_nat hv, ?_⟩
    refine ⟨b, _, rfl, .inl ⟨SqL.of hb, fun t ht => ?_⟩⟩
    obtain ⟨e2, h2⟩ := new2 ht (.tup ((nb n E p).map vi))
    exact q _ _ (e1.trans e2) ⟨t, rfl, h2⟩
abbrev N_fars : List Str := ["web", "place", "nears", "found", "row", "at", "there"]
theorem sc_fars : FnScope N_fars ["web", "place"] (defScope x_fars) := ⟨rfl, rfl, rfl, by decide +kernel, rfl, by decide +kernel, by decide +kernel⟩
/-- what fars holds: nears, found, row -/
structure FarSt (H1 H : Hp) (n : Nat) (ff rr : Addr) (F : Nat → Option Nat) (row : List Nat) : Prop where
  ex : Ex H1 H
  f0 : H1 ff = none
  r0 : H1 rr = none
  ne : rr ≠ ff
  hf : H ff = some (.lst (tab n F))
  hr : H rr = some (.lst (row.map vi))
theorem ok_fars (D : DefAt K mg "fars" x_fars ["web", "place"]) (B : Free mg) (C_nears_of : Cal P w K mg base 1 "nears_of" ["web"] sp_nears_of) : Cal P w K mg base 2 "fars" ["web", "place"] sp_fars := by
  refine D.ok sc_fars (fun vs H Q E h => ?_) (fun f cdv A outer s H vs Q E hr h => ?_)
  · obtain ⟨v, n, E, p, rfl, _⟩ := h
    rfl
  · obtain ⟨v, n, E, p, rfl, hw, hg, h16, hp, q⟩ := h
    refine ⟨_, (pss_cons (ps_set (i := 2) sc_fars.nd rfl (Or.inl rfl) (pe_cal C_nears_of hr (by decide) (by rfl) (pa_cons (pv 0) pa_nil)))
      (pss_cons (ps_set (i := 3) sc_fars.nd rfl (Or.inl rfl) (pe_op op_rep (pe_lst (pa_cons pe_non pa_nil)) (pe_ix (ix_tupK (K := K) rfl) (pv 0) pe_int (fun _ _ => rfl))))
      (pss_cons (ps_asg pe_int (pg_sub (pv 3) (pv 1) set_list))
      (pss_cons (ps_set (i := 4) sc_fars.nd rfl (Or.inl rfl) (pe_lst (pa_cons (pv 1) pa_nil)))
      (pss_cons (ps_set (i := 5) sc_fars.nd rfl (Or.inl rfl) pe_int)
      (pss_cons (ps_while PassesOwn.never (pt_cmpR op_lt (pv 5) (pe_callB (len_seqK (K := K) rfl) (by rfl) B.len (by decide +kernel) (pa_cons (pv 4) pa_nil)) (nomark _)) (pss_cons (ps_for PassesOwn.never rfl (pi_listK (K := K) rfl (pe_ix (ix_listK (K := K) rfl) (pv 2) (pe_ix (ix_listK (K := K) rfl) (pv 4) (pv 5) (fun _ _ => rfl)) (fun _ _ => rfl))) (pg_name (i := 6) sc_fars.nd rfl (Or.inl rfl)) (pss_one (ps_if (pt_cmpR op_isN (pe_ix (ix_listK (K := K) rfl) (pv 3) (pv 6) (fun _ _ => rfl)) pe_non (nomark _)) (pss_cons (ps_asg (pe_op op_add (pe_ix (ix_listK (K := K) rfl) (pv 3) (pe_ix (ix_listK (K := K) rfl) (pv 4) (pv 5) (fun _ _ => rfl)) (fun _ _ => rfl)) pe_int) (pg_sub (pv 3) (pv 6) set_list))
      (pss_one (ps_expr (pe_bmK (K := K) rfl (pe_bm PySem.F.plainAttrs_list PySem.F.slot_list_append PySem.F.type_list_append mt_append (pv 4) (pa_cons (pv 6) pa_nil)))))) pss_nil)))
      (pss_one (ps_aug (i := 5) sc_fars.nd rfl (.inl rfl) pe_int ip_add))))
      (pss_one (ps_ret (pv 3))))))))), ?_⟩
    -- nears = nears_of(web)
    refine ⟨_, rfl, v, n, E, rfl, hw, hg, h16, fun u H1 e1 hu => ?_⟩
    obtain ⟨a, t, rfl, ha, _⟩ := hw.mono (Ex.t e1)
    obtain ⟨pl, vs, _, rfl, hl, _, _⟩ := LL_get hu hp
    -- found = [None] * web[0]
    refine ⟨by show 1 ≤ sizeLine; decide, fun l0 hl0 => ?_⟩
    obtain ⟨e2, h2⟩ := new2 hl0 (.lst [V.non])
    refine ⟨_, rfl, a, _, 0, _, rfl, rfl, SqT.of (e2 _ _ ha), rfl, l0, (n : Int), [V.non], rfl, rfl, h2, by omega, by omega, ?_, fun ff hff => ?_⟩
    · show 1 * ((n : Nat) : Int).toNat ≤ sizeLine
      rw [Int.toNat_natCast]
      exact Nat.le_of_lt (small1000 (by omega))
    obtain ⟨e3, h3⟩ := new2 hff (.lst ((List.replicate ((n : Nat) : Int).toNat [V.non]).flatten))
    rw [Int.toNat_natCast, tab_init] at e3 h3
    -- found[place] = 0
    have f0 : H1 ff = none := Evl.fresh_back e2 hff
    refine ⟨_, rfl, _, rfl, ff, tab n (fun _ => none), p, p, rfl, rfl, ?_, ixN_ok (by rw [tab_len]; exact hp), ?_⟩
    · rw [Int.toNat_natCast, tab_init]
      exact h3
    have ts : (tab n fun _ => none).set p (V.int 0) = tab n (fun x => if x = p then some 0 else none) := tab_set (k := 0) hp
    rw [Int.toNat_natCast, tab_init, upd_upd, ts]
    have e4 : Ex H1 (upd (upd H1 l0 (.lst [V.non])) ff (.lst (tab n fun x => if x = p then some 0 else none))) := Evl.Ex.mut e2 f0
    -- row = [place]; at = 0
    refine ⟨_, rfl, by show 1 ≤ sizeLine; decide, fun rr hrr => ?_⟩
    obtain ⟨e5, h5⟩ := new2 hrr (.lst [vi p])
    have nrf : rr ≠ ff := fun z => by
      rw [z, upd_same] at hrr
      cases hrr
    have S0 : FarSt H1 (upd (upd (upd H1 l0 (.lst [V.non])) ff (.lst (tab n fun x => if x = p then some 0 else none))) rr (.lst [vi p])) n ff rr (fun x => if x = p then some 0 else none) [p] :=
      ⟨e4.trans e5, f0, Evl.fresh_back e4 hrr, nrf, e5 _ _ upd_same, h5⟩
    -- while at < len(row)
    refine ⟨fun m σ' H' => ∃ (k : Nat) (F : Nat → Option Nat) (row : List Nat) (y6 : Option V), σ' = [some (.ref a), some (vi p), some (.ref pl), some (.ref ff), some (.ref rr), some (vi k), y6] ∧ Bfs E p F row k ∧ k ≤ row.length ∧ m = n - k ∧ FarSt H1 H' n ff rr F row,
      ⟨n, 0, _, [p], none, rfl, Bfs.init E p, Nat.zero_le _, by omega, S0⟩, fun m σ' H' hW => ?_⟩
    obtain ⟨k, F, row, y6, rfl, hB, hk, rfl, S⟩ := hW
    have rlt := hB.lt hg hp
    have rlen := nodup_le hB.nd rlt
    refine ⟨_, rfl, _, rfl, rr, row.map vi, rfl, .inl (SqL.of S.hr), (k : Int), ((row.map vi).length : Int), rfl, rfl, _, rfl, ?_⟩
    refine ite2 (fun c => ?_) (fun c => ?_)
    · have c' : (k : Int) < ((row.map vi).length : Int) := of_decide_eq_true c
      rw [List.length_map] at c'
      have hkl : k < row.length := by omega
      have gv : row[k]? = some row[k] := List.getElem?_eq_getElem hkl
      have vlt := rlt _ (List.getElem_mem hkl)
      obtain ⟨av, hIn⟩ := hB.enter gv
      refine ⟨fun σ2 H2 => ∃ (F : Nat → Option Nat) (row : List Nat) (y6 : Option V), σ2 = [some (.ref a), some (vi p), some (.ref pl), some (.ref ff), some (.ref rr), some (vi (k + 1)), y6] ∧ Bfs E p F row (k + 1) ∧ k + 1 ≤ row.length ∧ FarSt H1 H2 n ff rr F row, fun σ2 H2 hN => ?_, ?_⟩
      · obtain ⟨F, row, y6, e1, e2, e3, e4⟩ := hN
        exact ⟨n - (k + 1), by omega, k + 1, F, row, y6, e1, e2, e3, rfl, e4⟩
      · -- for there in nears[row[at]]
        obtain ⟨_, _, b, e1, hl', hv, hb⟩ := LL_get hu vlt
        cases e1
        have ev : vs = _ := HO.lst.inj (Option.some.inj (hl.symm.trans hl'))
        subst ev
        have gi : (row.map vi)[k]? = some (vi row[k]) := by
          rw [List.getElem?_map, gv]
          rfl
        refine ⟨_, rfl, _, rfl, _, rfl, rr, _, (k : Int), _, rfl, rfl, SqL.of S.hr, at_nat gi, pl, vs, ((row[k] : Nat) : Int), _, rfl, rfl, SqL.of (S.ex _ _ hl), at_nat hv, b, rfl, ⟨_, SqL.of (S.ex _ _ hb)⟩, ?_⟩
        have hkl0 := hkl
        refine for_list (K := K) (a := b) (xs := (nb n E row[k]).map vi) (fun i σ2 H2 => ∃ (F : Nat → Option Nat) (row2 : List Nat) (y6 : Option V), σ2 = [some (.ref a), some (vi p), some (.ref pl), some (.ref ff), some (.ref rr), some (vi k), y6] ∧ BfsIn E p F row2 k row[k] av ((nb n E row[k]).take i) ∧ FarSt H1 H2 n ff rr F row2)
          ⟨F, row, y6, rfl, hIn, S⟩ (fun i σ2 H2 _ ⟨_, _, _, _, _, S2⟩ => SqL.of (S2.ex _ _ hb)) (fun i x σ2 H2 hx ⟨F2, row2, y6, es, hI, S2⟩ => ?_) (fun σ2 H2 ⟨F2, row2, y6, es, hI, S2⟩ => ?_)
        · subst es
          rw [List.getElem?_map] at hx
          obtain ⟨wn, hwn, ex⟩ := Option.map_eq_some_iff.mp hx
          subst ex
          have hadj := (mem_nbG hg).mp (List.mem_of_getElem? hwn)
          have wlt := (hg.adj_lt hadj).2.1
          have tk : (nb n E row[k]).take (i + 1) = (nb n E row[k]).take i ++ [wn] := by rw [List.take_add_one, hwn]; rfl
          rw [tk]
          have r2lt := hI.toBfs.lt hg hp
          have r2len := nodup_le hI.nd r2lt
          -- if found[there] is None
          refine ⟨_, rfl, _, rfl, ff, _, (wn : Int), _, rfl, rfl, SqL.of S2.hf, at_nat (tab_get wlt), rfl, _, rfl, ?_⟩
          refine ite2 (fun c => ?_) (fun c => ?_)
          · have hn : F2 wn = none := by
              have z := of_decide_eq_true c
              cases e : F2 wn with
              | none => rfl
              | some d =>
                rw [e] at z
                cases z
            have gk2 : (row2.map vi)[k]? = some (vi row[k]) := by
              rw [List.getElem?_map, hI.here]
              rfl
            refine ⟨_, rfl, _, rfl, _, rfl, rr, _, (k : Int), _, rfl, rfl, SqL.of S2.hr, at_nat gk2, ff, _, ((row[k] : Nat) : Int), _, rfl, rfl, SqL.of S2.hf, at_nat (tab_get vlt), (av : Int), 1, ?_, rfl, ?_⟩
            · rw [hI.val]
              rfl
            refine ⟨_, rfl, _, rfl, ff, _, (wn : Int), wn, rfl, rfl, S2.hf, ixN_ok (by rw [tab_len]; exact wlt), ?_⟩
            have ts2 : (tab n F2).set wn (V.int ((av : Int) + 1)) = tab n (fun x => if x = wn then some (av + 1) else F2 x) := tab_set (k := av + 1) wlt
            rw [ts2]
            have S3 : FarSt H1 (upd H2 ff (.lst (tab n fun x => if x = wn then some (av + 1) else F2 x))) n ff rr (fun x => if x = wn then some (av + 1) else F2 x) row2 :=
              ⟨Evl.Ex.mut S2.ex S2.f0, S2.f0, S2.r0, S2.ne, upd_same, by rw [upd_ne S2.ne]; exact S2.hr⟩
            refine ⟨_, rfl, .inl ⟨rfl, _, SqL.of S3.hr⟩, _, rfl, rr, _, vi wn, rfl, rfl, S3.hr, small1000 (by rw [List.length_map]; omega), ?_⟩
            refine ⟨_, row2 ++ [wn], _, rfl, hI.new hn hadj, Evl.Ex.mut S3.ex S3.r0, S3.f0, S3.r0, S3.ne, by rw [upd_ne S3.ne.symm]; exact S3.hf, ?_⟩
            rw [upd_same, List.map_append]
            rfl
          · have hs : ∃ d, F2 wn = some d := by
              cases e : F2 wn with
              | none => exact absurd (decide_eq_true (by rw [e]; rfl)) c
              | some d => exact ⟨d, rfl⟩
            obtain ⟨d, hd⟩ := hs
            exact ⟨F2, row2, _, rfl, hI.old hd, S2⟩
        · subst es
          rw [List.length_map, List.take_length] at hI
          have hB2 := hI.leave fun x hx => (mem_nbG hg).mpr hx
          have hl2 := (List.getElem?_eq_some_iff.mp hI.here).1
          -- at += 1
          exact ⟨vi k, rfl, (k : Int), 1, rfl, rfl, F2, row2, _, rfl, hB2, by omega, S2⟩
    · have c' : ¬ (k : Int) < ((row.map vi).length : Int) := of_decide_eq_false (Bool.eq_false_iff.mpr c)
      rw [List.length_map] at c'
      refine ⟨_, rfl, q _ _ (e1.trans S.ex) ⟨⟨ff, rfl, ?_⟩, fun a z => by cases z; exact Evl.fresh_back e1 S.f0⟩⟩
      have ee : F = dist E p := funext fun x => hB.done (by omega) x
      rw [S.hf, ee]
      rfl
end
end Nsr
end
section
set_option Elab.async false
set_option linter.all false
set_option maxRecDepth 100000
set_option maxHeartbeats 4000000
set_option autoImplicit false
namespace Nsr
open PySem PySem.Spec PyProof.Rows L2
def sp_pieces_of : Sp := fun vs H Q _ => ∃ (v : V) (n : Nat) (E : Es), vs = [v] ∧ IsW H v n E ∧ Good n E ∧ n ≤ 16 ∧ Ret (fun u H' => IsLT H' ((roots n E n).map (pc n E)) u ∧ ∀ a, u = .ref a → H a = none) H Q
def sp_even_by : Sp := fun vs H Q _ => ∃ (v : V) (n : Nat) (E : Es), vs = [v] ∧ IsW H v n E ∧ Good n E ∧ n ≤ 16 ∧ 0 < n ∧ Ret (fun u _ => u = oV (evenBy n E)) H Q
def sp_ring_through : Sp := fun vs H Q _ => ∃ (v tv : V) (n : Nat) (E : Es) (t : Nat × Nat), vs = [v, tv] ∧ IsW H v n E ∧ Good n E ∧ n ≤ 16 ∧ IsP H t tv ∧ t ∈ E ∧ Ret (fun u _ => u = oV (ringT E t)) H Q
def sp_shortest : Sp := fun vs H Q _ => ∃ (v : V) (n : Nat) (E : Es), vs = [v] ∧ IsW H v n E ∧ Good n E ∧ n ≤ 16 ∧ Ret (fun u _ => u = oV (girth E)) H Q
theorem extT_upd {H : Hp} {f : Addr} {xs : List V} {o : HO} (h : H f = some (.lst xs)) : ExT H (upd H f o) := fun a ys q => by
  rw [upd_ne (ne_of q h (by intro z; cases z))]
  exact q
theorem range_get {n i x : Nat} (h : (List.range n)[i]? = some x) : x = i ∧ i < n := by
  obtain ⟨hl, q⟩ := List.getElem?_eq_some_iff.mp h
  rw [List.getElem_range] at q
  rw [List.length_range] at hl
  exact ⟨q.symm, hl⟩
theorem rangeV_get {n i : Nat} {s : V} (h : ((List.range n).map vi)[i]? = some s) : s = vi i ∧ i < n := by
  rw [List.getElem?_map] at h
  obtain ⟨x, hx, e⟩ := Option.map_eq_some_iff.mp h
  obtain ⟨e2, l⟩ := range_get hx
  rw [← e, e2]
  exact ⟨rfl, l⟩
theorem ringL_eq (E : Es) : (E.filter fun e => (ringT E e).isSome).map (fun e => (ringT E e).getD 0) = ringL E := by
  unfold ringL
  generalize ringT E = g
  induction E with
  | nil => rfl
  | cons e E ih =>
    rw [List.filter_cons, List.filterMap_cons]
    cases q : g e with
    | none => simp [ih]
    | some k => simp [q, ih]
theorem rep_vi (n d : Nat) : (List.replicate n [vi d]).flatten = (List.replicate n d).map vi := by
  induction n with
  | zero => rfl
  | succ n ih =>
    rw [List.replicate_succ, List.flatten_cons, ih, List.replicate_succ]
    rfl
section
variable {P : Program} {w : World} {K : PySem.W.Frag} {mg : Str → Option Value} {base : Heap}
abbrev N_pieces_of : List Str := ["web", "found", "place", "far", "piece", "other"]
theorem sc_pieces_of : FnScope N_pieces_of ["web"] (defScope x_pieces_of) := ⟨rfl, rfl, rfl, by decide +kernel, rfl, by decide +kernel, by decide +kernel⟩
theorem ok_pieces_of (D : DefAt K mg "pieces_of" x_pieces_of ["web"]) (B : Free mg) (C_fars : Cal P w K mg base 2 "fars" ["web", "place"] sp_fars) : Cal P w K mg base 3 "pieces_of" ["web"] sp_pieces_of := by
  refine D.ok sc_pieces_of (fun vs H Q E h => ?_) (fun f cdv A outer s H vs Q E hr h => ?_)
  · obtain ⟨v, n, E, rfl, _⟩ := h
    rfl
  · obtain ⟨v, n, E, rfl, hw, hg, h16, q⟩ := h
    refine ⟨_, (pss_cons (ps_set (i := 1) sc_pieces_of.nd rfl (Or.inl rfl) (pe_lst pa_nil))
      (pss_cons (ps_for PassesOwn.never rfl (pi_range1 (by rfl) B.range (pa_cons (pe_ix (ix_tupK (K := K) rfl) (pv 0) pe_int (fun _ _ => rfl)) pa_nil)) (pg_name (i := 2) sc_pieces_of.nd rfl (Or.inl rfl)) (pss_cons (ps_set (i := 3) sc_pieces_of.nd rfl (Or.inr rfl) (pe_cal C_fars hr (by decide) (by rfl) (pa_cons (pv 0) (pa_cons (pv 2) pa_nil))))
      (pss_cons (ps_set (i := 4) sc_pieces_of.nd rfl (Or.inl rfl) (pe_callTy call_tuple_of (by rfl) B.tuple (by decide +kernel) (pa_cons (pe_lc (own := [("other", 5)]) (g := gName 5) (by rfl) sc_pieces_of.nd (pi_range1 (by rfl) B.range (pa_cons (pe_ix (ix_tupK (K := K) rfl) (pv 0) pe_int (fun _ _ => rfl)) pa_nil)) (blkOk_by (N := N_pieces_of) (sc := defScope x_pieces_of) (own := [("other", 5)]) (by decide +kernel)) (fun _ _ _ _ _ => (pg_name (i := 5) sc_pieces_of.nd rfl (Or.inl rfl))) (fun _ _ _ _ _ => (pts_one (pt_cmpR op_notN (pe_ix (ix_listK (K := K) rfl) (pv 3) (pv 5) (fun _ _ => rfl)) pe_non (nomark _)))) (fun _ _ _ _ _ => (pv 5))) pa_nil)))
      (pss_one (ps_if (pt_cmpR op_eq (pe_ix (ix_tupK (K := K) rfl) (pv 4) pe_int (fun _ _ => rfl)) (pv 2) (nomark _)) (pss_one (ps_expr (pe_bmK (K := K) rfl (pe_bm PySem.F.plainAttrs_list PySem.F.slot_list_append PySem.F.type_list_append mt_append (pv 1) (pa_cons (pv 4) pa_nil))))) pss_nil)))))
      (pss_one (ps_ret (pv 1))))), ?_⟩
    obtain ⟨a, t, rfl, ha, _⟩ := id hw
    refine ⟨Nat.zero_le _, fun ff hff => ?_⟩
    obtain ⟨e1, h1⟩ := new2 hff (.lst [])
    refine ⟨_, rfl, a, _, 0, _, rfl, rfl, SqT.of (e1 _ _ ha), rfl, (n : Int), rfl, by omega, by omega, ?_⟩
    refine for_range (lo := 0) (n := ((n : Nat) : Int).toNat) (fun i σ' H' => ∃ y2 y3 y4 y5 ys, σ' = [some (.ref a), some (.ref ff), y2, y3, y4, y5] ∧ Ex H H' ∧ H' ff = some (.lst ys) ∧ Paired (IsT H') ((roots n E i).map (pc n E)) ys)
      ⟨_, _, _, _, [], rfl, e1, h1, .nil⟩ (fun i σ' H' hi ⟨y2, y3, y4, y5, ys, es, e2, h2, r2⟩ => ?_) (fun σ' H' ⟨y2, y3, y4, y5, ys, es, e2, h2, r2⟩ => ?_)
    · subst es
      have hi' : i < n := by
        rw [Int.toNat_natCast] at hi
        exact hi
      have e0 : (0 : Int) + (i : Int) = (i : Int) := Int.zero_add _
      rw [e0]
      -- far = fars(web, place)
      refine ⟨_, rfl, _, rfl, .ref a, n, E, i, rfl, hw.mono (Ex.t e2), hg, h16, hi', fun u H3 e3 hu => ?_⟩
      obtain ⟨⟨fa, rfl, hfa⟩, _⟩ := hu
      have ha3 := e3 _ _ (e2 _ _ ha)
      -- piece
      refine ⟨_, rfl, a, _, 0, _, rfl, rfl, SqT.of ha3, rfl, (n : Int), rfl, by omega, by omega, fun D hD => ?_⟩
      refine lc_rel hD (List.range n) ((List.range n).map vi) (by rw [List.length_map]) (fun x => (dist E i x).isSome) (fun x y _ => y = vi x) (fun _ _ _ _ _ h => h) (walk_rangeN n) (fun _ _ => trivial) (by rw [List.length_map, List.length_range]; omega) (fun j x s H4 Qn Qs hx hs hy e4 k1 k2 => ?_) fun H4 zs e4 hd hz => ?_
      · obtain ⟨rfl, lj⟩ := rangeV_get hs
        obtain ⟨rfl, _⟩ := range_get hx
        refine ⟨rfl, _, rfl, _, rfl, fa, _, (x : Int), _, rfl, rfl, SqL.of (e4 _ _ hfa), at_nat (tab_get lj), rfl, _, rfl, ?_⟩
        refine ite2 (fun c => ?_) (fun c => ?_)
        · have hs : (dist E x x).isSome = (dist E x x).isSome := rfl
          refine ⟨_, rfl, k1 ?_ _ _ (Evl.Ex.refl _) rfl⟩
          cases z : dist E i x with
          | none =>
            rw [z] at c
            cases c
          | some d => rfl
        · refine k2 ?_ _ (Evl.Ex.refl _)
          cases z : dist E i x with
          | none => rfl
          | some d =>
            rw [z] at c
            exact absurd rfl c
      · have ez := rel_map hz
        subst ez
        refine ⟨D, _, rfl, .inl ⟨SqL.of hd, fun pt hpt => ?_⟩⟩
        obtain ⟨e5, h5⟩ := new2 hpt (.tup ((pc n E i).map vi))
        have h2' := e5 _ _ (e4 _ _ (e3 _ _ h2))
        have hd0 := pc_head (E := E) hi'
        have gd : ((pc n E i).map vi)[0]? = some (vi (root n E i)) := by
          rw [List.getElem?_map, hd0]
          rfl
        -- if piece[0] == place
        refine ⟨_, rfl, pt, _, ((0 : Nat) : Int), _, rfl, rfl, SqT.of h5, at_nat gd, _, rfl, rfl, _, rfl, ?_⟩
        have e25 := (e3.trans e4).trans e5
        refine ite2 (fun c => ?_) (fun c => ?_)
        · have er : root n E i = i := by
            have z := of_decide_eq_true c
            have z2 : ((root n E i : Nat) : Int) = ((i : Nat) : Int) := V.int.inj z
            omega
          have rs : roots n E (i + 1) = roots n E i ++ [i] := by
            rw [roots_succ, if_pos (show isRoot n E i = true from decide_eq_true er)]
          refine ⟨_, rfl, .inl ⟨rfl, _, SqL.of h2'⟩, _, rfl, ff, _, _, rfl, rfl, h2', ?_, ?_⟩
          · have := rel_len r2
            rw [List.length_map] at this
            have := roots_len n i E
            exact small1000 (by omega)
          · refine ⟨_, _, _, _, ys ++ [.ref pt], rfl, Evl.Ex.mut (e2.trans e25) hff, upd_same, ?_⟩
            rw [rs, List.map_append]
            exact Paired.snoc (rel_mono r2 fun x z q => (q.mono (Ex.t e25)).mono (extT_upd h2')) (IsT.mono (extT_upd h2') ⟨pt, rfl, h5⟩)
        · have er : ¬ root n E i = i := fun z => c (decide_eq_true (by rw [z]))
          have rs : roots n E (i + 1) = roots n E i := by
            rw [roots_succ, if_neg (by unfold isRoot; rw [decide_eq_false er]; decide), List.append_nil]
          refine ⟨_, _, _, _, ys, rfl, e2.trans e25, h2', ?_⟩
          rw [rs]
          exact rel_mono r2 fun x z q => q.mono (Ex.t e25)
    · subst es
      rw [Int.toNat_natCast] at r2
      exact ⟨_, rfl, q _ _ e2 ⟨⟨ff, ys, rfl, h2, r2⟩, fun a z => by cases z; exact hff⟩⟩
abbrev N_even_by : List Str := ["web", "counts", "some"]
theorem sc_even_by : FnScope N_even_by ["web"] (defScope x_even_by) := ⟨rfl, rfl, rfl, by decide +kernel, rfl, by decide +kernel, by decide +kernel⟩
theorem ok_even_by (D : DefAt K mg "even_by" x_even_by ["web"]) (B : Free mg) (C_nears_of : Cal P w K mg base 1 "nears_of" ["web"] sp_nears_of) : Cal P w K mg base 2 "even_by" ["web"] sp_even_by := by
  refine D.ok sc_even_by (fun vs H Q E h => ?_) (fun f cdv A outer s H vs Q E hr h => ?_)
  · obtain ⟨v, n, E, rfl, _⟩ := h
    rfl
  · obtain ⟨v, n, E, rfl, hw, hg, h16, hn, q⟩ := h
    refine ⟨_, (pss_cons (ps_setLc (i := 1) (own := [("some", 2)]) (g := gName 2) (tt := tYes) (by rfl) sc_even_by.nd rfl rfl (sw_true rfl rfl rfl (by decide +kernel)) (pi_listK (K := K) rfl (pe_cal C_nears_of hr (by decide) (by rfl) (pa_cons (pv 0) pa_nil))) (blkOk_by (N := N_even_by) (sc := defScope x_even_by) (own := [("some", 2)]) (by decide +kernel)) (fun _ _ _ _ _ => (pg_name (i := 2) sc_even_by.nd rfl (Or.inl rfl))) (fun _ _ _ _ _ => pts_nil) (fun _ _ _ _ _ => (pe_callB (len_seqK (K := K) rfl) (by rfl) B.len (by decide +kernel) (pa_cons (pv 2) pa_nil))))
      (pss_cons (ps_if (pt_cmpR (neDK (K := K) rfl hr.units) (pv 1) (pe_op op_rep (pe_lst (pa_cons (pe_ix (ix_listK (K := K) rfl) (pv 1) pe_int (fun _ _ => rfl)) pa_nil)) (pe_ix (ix_tupK (K := K) rfl) (pv 0) pe_int (fun _ _ => rfl))) (nomark _)) (pss_one (ps_ret pe_non)) pss_nil)
      (pss_one (ps_ret (pe_ix (ix_listK (K := K) rfl) (pv 1) pe_int (fun _ _ => rfl)))))), ?_⟩
    obtain ⟨a, t, rfl, ha, _⟩ := id hw
    refine ⟨_, rfl, .ref a, n, E, rfl, hw, hg, h16, fun u H1 e1 hu => ?_⟩
    obtain ⟨pl, vs, rfl, hl, hr'⟩ := hu
    have hlen : (List.range n).length = vs.length := by
      have := rel_len hr'
      rw [List.length_map] at this
      exact this
    refine ⟨pl, rfl, ⟨vs, SqL.of hl⟩, fun D hD => ?_⟩
    refine lc_all hD (List.range n) vs hlen (fun j y _ => y = vi (deg n E j)) (fun _ _ _ _ _ h => h) (walk_list (K := K)) (fun H2 e => Evl.ex_l e (SqL.of hl)) (by rw [← hlen, List.length_range]; omega) (fun j x s H2 Qn hx hs hy e k => ?_) fun H2 zs e hd hz => ?_
    · obtain ⟨rfl, lj⟩ := range_get hx
      have gj : ((List.range n).map (nb n E))[x]? = some (nb n E x) := by
        rw [List.getElem?_map, List.getElem?_range lj]
        rfl
      obtain ⟨y, hy2, b, rfl, hb⟩ := rel_get hr' gj
      have es : s = .ref b := Option.some.inj (hs.symm.trans hy2)
      subst es
      refine ⟨rfl, _, rfl, b, _, rfl, .inl (SqL.of (e _ _ hb)), k _ _ (Evl.Ex.refl _) ?_⟩
      show V.int (((nb n E x).map vi).length : Int) = vi (deg n E x)
      rw [List.length_map]
      rfl
    · have ez := rel_map hz
      have ez2 : (List.range n).map (fun j => vi (deg n E j)) = (degs n E).map vi := by
        unfold degs
        rw [List.map_map]
        rfl
      rw [ez2] at ez
      subst ez
      have d0 : (degs n E)[0]? = some (deg n E 0) := by
        unfold degs
        rw [List.getElem?_map, List.getElem?_range hn]
        rfl
      have g0 : ((degs n E).map vi)[0]? = some (vi (deg n E 0)) := by
        rw [List.getElem?_map, d0]
        rfl
      have ha2 := e _ _ (e1 _ _ ha)
      -- if counts != [counts[0]] * web[0]
      refine ⟨_, rfl, _, rfl, D, _, ((0 : Nat) : Int), _, rfl, rfl, SqL.of hd, at_nat g0, by show 1 ≤ sizeLine; decide, fun l0 hl0 => ?_⟩
      obtain ⟨e3, h3⟩ := new2 hl0 (.lst [vi (deg n E 0)])
      refine ⟨_, rfl, a, _, 0, _, rfl, rfl, SqT.of (e3 _ _ ha2), rfl, l0, (n : Int), [vi (deg n E 0)], rfl, rfl, h3, by omega, by omega, ?_, fun l1 hl1 => ?_⟩
      · show 1 * ((n : Nat) : Int).toNat ≤ sizeLine
        rw [Int.toNat_natCast]
        exact Nat.le_of_lt (small1000 (by omega))
      obtain ⟨e4, h4⟩ := new2 hl1 (.lst ((List.replicate ((n : Nat) : Int).toNat [vi (deg n E 0)]).flatten))
      have hd4 := e4 _ _ (e3 _ _ hd)
      have h4' := h4
      rw [Int.toNat_natCast, rep_vi] at h4'
      refine ⟨_, _, dp_L (l := degs n E) ⟨D, rfl, hd4⟩, dp_L (l := List.replicate n (deg n E 0)) ⟨l1, rfl, ?_⟩, shaped_list _, shaped_list _, _, rfl, ?_⟩
      · rw [Int.toNat_natCast, rep_vi] at h4 ⊢
        exact h4
      have ee := (e1.trans e).trans (e3.trans e4)
      rw [zz_eqv]
      by_cases c : degs n E = List.replicate n (deg n E 0)
      · rw [decide_eq_true c]
        refine iteF ?_
        refine ⟨_, rfl, D, _, ((0 : Nat) : Int), _, rfl, rfl, SqL.of hd4, at_nat g0, q _ _ ee ?_⟩
        unfold evenBy
        rw [if_pos c]
        rfl
      · rw [decide_eq_false c]
        refine iteT (q _ _ ee ?_)
        unfold evenBy
        rw [if_neg c]
        rfl
abbrev N_ring_through : List Str := ["web", "tie", "less", "other", "far"]
theorem sc_ring_through : FnScope N_ring_through ["web", "tie"] (defScope x_ring_through) := ⟨rfl, rfl, rfl, by decide +kernel, rfl, by decide +kernel, by decide +kernel⟩
theorem ok_ring_through (D : DefAt K mg "ring_through" x_ring_through ["web", "tie"]) (B : Free mg) (C_fars : Cal P w K mg base 2 "fars" ["web", "place"] sp_fars) : Cal P w K mg base 3 "ring_through" ["web", "tie"] sp_ring_through := by
  refine D.ok sc_ring_through (fun vs H Q E h => ?_) (fun f cdv A outer s H vs Q E hr h => ?_)
  · obtain ⟨v, tv, n, E, t, rfl, _⟩ := h
    rfl
  · obtain ⟨v, tv, n, E, t, rfl, hw, hg, h16, ⟨tp0, rfl, htp⟩, htE, q⟩ := h
    refine ⟨_, (pss_cons (ps_set (i := 2) sc_ring_through.nd rfl (Or.inl rfl) (pe_tup (pa_cons (pe_ix (ix_tupK (K := K) rfl) (pv 0) pe_int (fun _ _ => rfl)) (pa_cons (pe_callTy call_tuple_of (by rfl) B.tuple (by decide +kernel) (pa_cons (pe_lc (own := [("other", 3)]) (g := gName 3) (by rfl) sc_ring_through.nd (pi_tupK (K := K) rfl (pe_ix (ix_tupK (K := K) rfl) (pv 0) pe_int (fun _ _ => rfl))) (blkOk_by (N := N_ring_through) (sc := defScope x_ring_through) (own := [("other", 3)]) (by decide +kernel)) (fun _ _ _ _ _ => (pg_name (i := 3) sc_ring_through.nd rfl (Or.inl rfl))) (fun _ _ _ _ _ => (pts_one (pt_cmpR (neDK (K := K) rfl hr.units) (pv 3) (pv 1) (nomark _)))) (fun _ _ _ _ _ => (pv 3))) pa_nil)) pa_nil))))
      (pss_cons (ps_set (i := 4) sc_ring_through.nd rfl (Or.inl rfl) (pe_ix (ix_listK (K := K) rfl) (pe_cal C_fars hr (by decide) (by rfl) (pa_cons (pv 2) (pa_cons (pe_ix (ix_tupK (K := K) rfl) (pv 1) pe_int (fun _ _ => rfl)) pa_nil))) (pe_ix (ix_tupK (K := K) rfl) (pv 1) pe_int (fun _ _ => rfl)) (fun _ _ => rfl)))
      (pss_cons (ps_if (pt_cmpR op_isN (pv 4) pe_non (nomark _)) (pss_one (ps_ret pe_non)) pss_nil)
      (pss_one (ps_ret (pe_op op_add (pv 4) pe_int)))))), ?_⟩
    obtain ⟨a, b, rfl, ha, ts, hb, hts⟩ := id hw
    have lt := hg.lt t htE
    -- less
    refine ⟨_, rfl, a, _, 0, _, rfl, rfl, SqT.of ha, rfl, ?_⟩
    refine ⟨_, rfl, a, _, 1, _, rfl, rfl, SqT.of ha, rfl, b, rfl, ⟨ts, SqT.of hb⟩, fun D hD => ?_⟩
    refine lc_rel hD E ts (rel_len hts) (fun e => !decide (e = t)) (fun e y H => IsP H e y) (fun x y H H' e h => h.mono (Ex.t e)) (walk_tup (K := K)) (fun H2 e => Evl.ex_t e (SqT.of hb)) ?_ (fun j x s H2 Qn Qs hx hs hy e k1 k2 => ?_) fun H2 zs e hd hz => ?_
    · have := hg.len
      have := tri16 n (by omega)
      rw [← rel_len hts]
      omega
    · obtain ⟨y, hy2, pp, rfl, hpp⟩ := rel_get hts hx
      have es : s = .ref pp := Option.some.inj (hs.symm.trans hy2)
      subst es
      refine ⟨rfl, _, rfl, _, rfl, _, _, dp_T (l := [x.1, x.2]) ⟨pp, rfl, e _ _ hpp⟩, dp_T (l := [t.1, t.2]) ⟨tp0, rfl, e _ _ htp⟩, shaped_tup _, shaped_tup _, _, rfl, ?_⟩
      rw [zz_eqvT]
      by_cases c : x = t
      · have c2 : [x.1, x.2] = [t.1, t.2] := by rw [c]
        rw [decide_eq_true c2]
        exact iteF (k2 (by rw [decide_eq_true c]; rfl) _ (Evl.Ex.refl _))
      · have c2 : ¬ [x.1, x.2] = [t.1, t.2] := fun z => c (by
          obtain ⟨x1, x2⟩ := x
          obtain ⟨t1, t2⟩ := t
          simp only [List.cons.injEq, and_true] at z
          rw [z.1, z.2])
        rw [decide_eq_false c2]
        refine iteT ⟨_, rfl, k1 (by rw [decide_eq_false c]; rfl) _ _ (Evl.Ex.refl _) ⟨pp, rfl, ?_⟩⟩
        obtain ⟨us, hus⟩ := hy
        exact del_tup hus _ _ (e _ _ hpp)
    · refine ⟨D, _, rfl, .inl ⟨SqL.of hd, fun p1 hp1 => ?_⟩⟩
      obtain ⟨e3, h3⟩ := new2 hp1 (.tup zs)
      refine ⟨by show 2 ≤ sizeLine; decide, fun p2 hp2 => ?_⟩
      obtain ⟨e4, h4⟩ := new2 hp2 (.tup [vi n, .ref p1])
      have W2 : IsW (upd (upd H2 p1 (.tup zs)) p2 (.tup [vi n, .ref p1])) (.ref p2) n (without E t) := ⟨p2, p1, rfl, h4, zs, e4 _ _ h3, rel_mono hz fun x y z => z.mono (Ex.t (e3.trans e4))⟩
      have htp4 := e4 _ _ (e3 _ _ (e _ _ htp))
      -- far = fars(less, tie[0])[tie[1]]
      refine ⟨_, rfl, _, rfl, tp0, _, 0, _, rfl, rfl, SqT.of htp4, rfl, .ref p2, n, without E t, t.1, rfl, W2, without_good hg t, h16, by omega, fun u H5 e5 hu => ?_⟩
      obtain ⟨⟨fa, rfl, hfa⟩, _⟩ := hu
      refine ⟨_, rfl, tp0, _, 1, _, rfl, rfl, SqT.of (e5 _ _ htp4), rfl, fa, _, (t.2 : Int), _, rfl, rfl, SqL.of hfa, at_nat (tab_get lt.2), ?_⟩
      have ee := (e.trans e3).trans (e4.trans e5)
      refine ⟨_, rfl, rfl, _, rfl, ?_⟩
      have er : ringT E t = (dist (without E t) t.1 t.2).map (· + 1) := rfl
      cases z : dist (without E t) t.1 t.2 with
      | none =>
        refine iteT (q _ _ ee ?_)
        rw [er, z]
        rfl
      | some d =>
        refine iteF ?_
        refine ⟨_, rfl, (d : Int), 1, rfl, rfl, q _ _ ee ?_⟩
        rw [er, z]
        rfl
abbrev N_shortest : List Str := ["web", "some", "size", "tie"]
theorem sc_shortest : FnScope N_shortest ["web"] (defScope x_shortest) := ⟨rfl, rfl, rfl, by decide +kernel, rfl, by decide +kernel, by decide +kernel⟩
theorem ok_shortest (D : DefAt K mg "shortest" x_shortest ["web"]) (B : Free mg) (C_ring_through : Cal P w K mg base 3 "ring_through" ["web", "tie"] sp_ring_through) : Cal P w K mg base 4 "shortest" ["web"] sp_shortest := by
  refine D.ok sc_shortest (fun vs H Q E h => ?_) (fun f cdv A outer s H vs Q E hr h => ?_)
  · obtain ⟨v, n, E, rfl, _⟩ := h
    rfl
  · obtain ⟨v, n, E, rfl, hw, hg, h16, q⟩ := h
    refine ⟨_, (pss_cons (ps_setLc (i := 1) (own := [("size", 2)]) (g := gName 2) (by rfl) sc_shortest.nd rfl rfl (sw_true rfl rfl rfl (by decide +kernel)) (pi_listK (K := K) rfl (pe_lc (own := [("tie", 3)]) (g := gName 3) (tt := tYes) (by rfl) sc_shortest.nd (pi_tupK (K := K) rfl (pe_ix (ix_tupK (K := K) rfl) (pv 0) pe_int (fun _ _ => rfl))) (blkOk_by (N := N_shortest) (sc := defScope x_shortest) (own := [("tie", 3)]) (by decide +kernel)) (fun _ _ _ _ _ => (pg_name (i := 3) sc_shortest.nd rfl (Or.inl rfl))) (fun _ _ _ _ _ => pts_nil) (fun _ _ _ _ _ => (pe_cal C_ring_through hr (by decide) (by rfl) (pa_cons (pv 0) (pa_cons (pv 3) pa_nil)))))) (blkOk_by (N := N_shortest) (sc := defScope x_shortest) (own := [("size", 2)]) (by decide +kernel)) (fun _ _ _ _ _ => (pg_name (i := 2) sc_shortest.nd rfl (Or.inl rfl))) (fun _ _ _ _ _ => (pts_one (pt_cmpR op_notN (pv 2) pe_non (nomark _)))) (fun _ _ _ _ _ => (pv 2)))
      (pss_cons (ps_if (pt_cmpR (eqDK (K := K) rfl hr.units) (pv 1) (pe_lst pa_nil) (nomark _)) (pss_one (ps_ret pe_non)) pss_nil)
      (pss_one (ps_ret (pe_callB (cr_min (by rfl)) (by rfl) B.min (by decide +kernel) (pa_cons (pv 1) pa_nil)))))), ?_⟩
    obtain ⟨a, b, rfl, ha, ts, hb, hts⟩ := id hw
    have hE : E.length ≤ 120 := Nat.le_trans hg.len (tri16 n (by omega))
    refine ⟨_, rfl, a, _, 1, _, rfl, rfl, SqT.of ha, rfl, b, rfl, ⟨ts, SqT.of hb⟩, fun D hD => ?_⟩
    refine lc_all hD E ts (rel_len hts) (fun e y _ => y = oV (ringT E e)) (fun _ _ _ _ _ h => h) (walk_tup (K := K)) (fun H2 e => Evl.ex_t e (SqT.of hb)) (by rw [← rel_len hts]; omega) (fun j x s H2 Qn hx hs hy e k => ?_) fun H2 zs e hd hz => ?_
    · obtain ⟨y, hy2, hp⟩ := rel_get hts hx
      have es : s = y := Option.some.inj (hs.symm.trans hy2)
      subst es
      refine ⟨rfl, _, rfl, _, rfl, .ref a, s, n, E, x, rfl, hw.mono (Ex.t e), hg, h16, hp.mono (Ex.t e), List.mem_of_getElem? hx, fun u H3 e3 hu => k _ _ e3 hu⟩
    · have ez := rel_map hz
      subst ez
      refine ⟨D, rfl, ⟨_, SqL.of hd⟩, fun D2 hD2 => ?_⟩
      refine lc_rel hD2 E (E.map fun e => oV (ringT E e)) (by rw [List.length_map]) (fun e => (ringT E e).isSome) (fun e y _ => y = vi ((ringT E e).getD 0)) (fun _ _ _ _ _ h => h) (walk_list (K := K)) (fun H3 e3 => Evl.ex_l e3 (SqL.of hd)) (by rw [List.length_map]; omega) (fun j x s H3 Qn Qs hx hs hy e3 k1 k2 => ?_) fun H3 ys e3 hd3 hz3 => ?_
      · have es : s = oV (ringT E x) := by
          rw [List.getElem?_map, hx] at hs
          exact (Option.some.inj hs).symm
        subst es
        refine ⟨rfl, _, rfl, rfl, _, rfl, ?_⟩
        cases z : ringT E x with
        | none => exact iteF (k2 (by rw [z]; rfl) _ (Evl.Ex.refl _))
        | some d => exact iteT ⟨_, rfl, k1 (by rw [z]; rfl) _ _ (Evl.Ex.refl _) (by rw [z]; rfl)⟩
      · have ey := rel_map hz3
        have ey2 : (E.filter fun e => (ringT E e).isSome).map (fun e => vi ((ringT E e).getD 0)) = (ringL E).map vi := by
          rw [← ringL_eq, List.map_map]
          rfl
        rw [ey2] at ey
        subst ey
        refine ⟨_, rfl, Nat.zero_le _, fun l0 hl0 => ?_⟩
        obtain ⟨e4, h4⟩ := new2 hl0 (.lst [])
        have hd4 := e4 _ _ hd3
        refine ⟨_, _, dp_L (l := ringL E) ⟨D2, rfl, hd4⟩, dp_L (l := []) ⟨l0, rfl, h4⟩, shaped_list _, shaped_list _, _, rfl, ?_⟩
        rw [zz_eqv]
        have ee := (e.trans e3).trans e4
        by_cases c : ringL E = []
        · rw [decide_eq_true c]
          refine iteT (q _ _ ee ?_)
          rw [girth_none.mpr c]
          rfl
        · rw [decide_eq_false c]
          refine iteF ?_
          rw [← zz_vi] at hd4
          refine ⟨_, rfl, D2, zz (ringL E), rfl, SqL.of hd4, ?_, fun m hm hmin => ?_⟩
          · rw [zz_len]
            exact List.length_pos_iff.mpr c
          · obtain ⟨k, hk, rfl⟩ := List.mem_map.mp hm
            have hk2 : girth E = some k := girth_of hk fun x hx => by
              have := hmin (x : Int) (List.mem_map.mpr ⟨x, hx, rfl⟩)
              omega
            exact q _ _ ee (by rw [hk2]; rfl)
end
end Nsr
end
section
set_option Elab.async false
set_option linter.all false
set_option maxRecDepth 100000
set_option maxHeartbeats 4000000
set_option autoImplicit false
namespace Nsr
open PySem PySem.Spec PyProof.Rows L2
def sp_names_good : Sp := fun vs H Q _ => ∃ (v nv : V) (n : Nat) (E : Es) (fl : List Nat), vs = [v, nv] ∧ IsW H v n E ∧ n ≤ 16 ∧ IsT H fl nv ∧ Names n fl ∧ Ret (fun u _ => u = .bl true) H Q
def sp_named_by : Sp := fun vs H Q _ => ∃ (v nv : V) (n : Nat) (E : Es) (fl : List Nat), vs = [v, nv] ∧ IsW H v n E ∧ Good n E ∧ n ≤ 8 ∧ IsT H fl nv ∧ Names n fl ∧ ∀ u H' R, Ex H H' → ByPairs (namePairs fl E) R → IsW H' u n R → Q u H'
def sp_renamed : Sp := sp_named_by
def sp_sides_by : Sp := fun vs H Q _ => ∃ (v : V) (n : Nat) (E : Es), vs = [v] ∧ IsW H v n E ∧ Good n E ∧ n ≤ 16 ∧ Ret (fun u H' => IsT H' ((List.range n).map (side n E)) u) H Q
def sp_are_unlike : Sp := fun vs H Q _ => ∃ (v sv : V) (n : Nat) (E : Es) (c : Nat → Nat), vs = [v, sv] ∧ IsW H v n E ∧ Good n E ∧ n ≤ 16 ∧ IsT H ((List.range n).map c) sv ∧ Ret (fun u _ => u = .bl (unlikeB E c)) H Q
def sp_sides_of : Sp := fun vs H Q _ => ∃ (v : V) (n : Nat) (E : Es), vs = [v] ∧ IsW H v n E ∧ Good n E ∧ n ≤ 16 ∧ Ret (fun u H' => (unlikeB E (side n E) = true ∧ IsT H' ((List.range n).map (side n E)) u) ∨ (unlikeB E (side n E) = false ∧ u = .non)) H Q
def sp_sides_good : Sp := fun vs H Q _ => ∃ (v sv : V) (n : Nat) (E : Es), vs = [v, sv] ∧ IsW H v n E ∧ Good n E ∧ n ≤ 16 ∧ IsT H ((List.range n).map (side n E)) sv ∧ unlikeB E (side n E) = true ∧ Ret (fun u _ => u = .bl true) H Q
theorem rgV0 (n : Nat) : rgV 0 (n : Int) = (List.range n).map vi := by
  unfold rgV
  have e : ((n : Int) - 0).toNat = n := by omega
  rw [e]
  refine List.map_congr_left fun i _ => ?_
  rw [Int.zero_add]
theorem all_true {α : Type} (xs : List α) : ((xs.map fun _ => true).all id) = true := by simp
theorem map_true {α : Type} (xs : List α) : xs.map (fun _ => V.bl true) = (xs.map fun _ => true).map V.bl := by
  rw [List.map_map]
  rfl
theorem at0_map {c : Nat → Nat} {n p : Nat} (h : p < n) : ((List.range n).map c)[p]? = some (c p) := by
  rw [List.getElem?_map, List.getElem?_range h]
  rfl
theorem tab_ext {n : Nat} {F G : Nat → Option Nat} (h : ∀ v, v < n → F v = G v) : tab n F = tab n G := by
  unfold tab
  refine List.map_congr_left fun i hi => ?_
  rw [h i (List.mem_range.mp hi)]
theorem tab_zero (n : Nat) : (List.replicate n [V.int 0]).flatten = tab n (fun _ => some 0) := by
  unfold tab
  induction n with
  | zero => rfl
  | succ n ih =>
    rw [List.replicate_succ', List.flatten_append, ih, List.range_succ, List.map_append]
    rfl
theorem tab_vi (n : Nat) (c : Nat → Nat) : tab n (fun v => some (c v)) = ((List.range n).map c).map vi := by
  unfold tab
  rw [List.map_map]
  rfl
theorem natMod2 (d : Nat) : V.int ((d : Int) % 2) = vi (d % 2) := by
  have e : (d : Int) % 2 = ((d % 2 : Nat) : Int) := by omega
  rw [e]
section
variable {P : Program} {w : World} {K : PySem.W.Frag} {mg : Str → Option Value} {base : Heap}
abbrev N_names_good : List Str := ["web", "thing", "place"]
theorem sc_names_good : FnScope N_names_good ["web", "thing"] (defScope x_names_good) := ⟨rfl, rfl, rfl, by decide +kernel, rfl, by decide +kernel, by decide +kernel⟩
theorem ok_names_good (D : DefAt K mg "names_good" x_names_good ["web", "thing"]) (B : Free mg) (C_is_whole : Cal P w K mg base 1 "is_whole" ["thing"] sp_is_whole) : Cal P w K mg base 2 "names_good" ["web", "thing"] sp_names_good := by
  refine D.ok sc_names_good (fun vs H Q E h => ?_) (fun f cdv A outer s H vs Q E hr h => ?_)
  · obtain ⟨v, nv, n, E, fl, rfl, _⟩ := h
    rfl
  · obtain ⟨v, nv, n, E, fl, rfl, hw, h16, ⟨nt, rfl, hnt⟩, hN, q⟩ := h
    refine ⟨_, (pss_cons (ps_if (PW.pt (pw_or (pt_not (pt_val (pe_callB call_isi (by rfl) B.isinstance (by decide +kernel) (pa_cons (pv 1) (pa_cons (pe_bltn (v := .ty "tuple") (by rfl) B.tuple (by decide +kernel) rfl) pa_nil))))) (pw_or1 (pt_not (pt_val (pe_callB (cr_all (by rfl)) (by rfl) B.all (by decide +kernel) (pa_cons (pe_lc (own := [("place", 2)]) (g := gName 2) (tt := tYes) (by rfl) sc_names_good.nd (pi_tupK (K := K) rfl (pv 1)) (blkOk_by (N := N_names_good) (sc := defScope x_names_good) (own := [("place", 2)]) (by decide +kernel)) (fun _ _ _ _ _ => (pg_name (i := 2) sc_names_good.nd rfl (Or.inl rfl))) (fun _ _ _ _ _ => pts_nil) (fun _ _ _ _ _ => (pe_cal C_is_whole hr (by decide) (by rfl) (pa_cons (pv 2) pa_nil)))) pa_nil))))))) (pss_one (ps_ret pe_bl)) pss_nil)
      (pss_one (ps_ret (pe_cmpR (eqDK (K := K) rfl hr.units) (pe_callB cr_sortedTu (by rfl) B.sorted (by decide +kernel) (pa_cons (pv 1) pa_nil)) (pe_listRg (by rfl) (by rfl) B.list (prg_1 (by rfl) B.range (pe_ix (ix_tupK (K := K) rfl) (pv 0) pe_int (fun _ _ => rfl)))) (nomark _))))), ?_⟩
    obtain ⟨a, t, rfl, ha, _⟩ := id hw
    refine ⟨_, rfl, _, _, .type "tuple", .type "tuple", true, rfl, .ty "tuple", .base (.tup hnt), kit_ty (by decide +kernel), true, rfl, iteF ?_⟩
    refine ⟨_, rfl, nt, rfl, ⟨_, SqT.of hnt⟩, fun D hD => ?_⟩
    refine lc_all hD fl (fl.map vi) (by rw [List.length_map]) (fun j y _ => y = V.bl true) (fun _ _ _ _ _ h => h) (walk_tup (K := K)) (fun H2 e => Evl.ex_t e (SqT.of hnt)) (by rw [List.length_map, hN.len]; omega) (fun j x s H2 Qn hx hs hy e k => ?_) fun H2 zs e hd hz => ?_
    · rw [List.getElem?_map, hx] at hs
      have es : vi x = s := Option.some.inj hs
      subst es
      exact ⟨rfl, _, rfl, (x : Int), rfl, k _ _ (Evl.Ex.refl _) rfl⟩
    · have ez := rel_map hz
      rw [map_true] at ez
      subst ez
      refine ⟨D, _, rfl, SqL.of hd, ?_⟩
      rw [all_true]
      refine ⟨true, rfl, iteF ?_⟩
      have hnt2 := e _ _ hnt
      rw [← zz_vi] at hnt2
      refine ⟨_, rfl, nt, zz fl, rfl, SqT.of hnt2, by rw [zz_len, hN.len]; omega, fun ns' p pm pw hp => ?_⟩
      obtain ⟨l', rfl, p1, p2⟩ := zz_sorted pm pw
      have el : l' = List.range n := lt_ext (le_lt p2 (p1.nodup_iff.mpr hN.nd)) (range_lt n) fun x => by rw [p1.mem_iff, hN.pm.mem_iff]
      subst el
      obtain ⟨e3, h3⟩ := new2 hp (.lst ((zz (List.range n)).map V.int))
      have ha3 := e3 _ _ (e _ _ ha)
      refine ⟨_, rfl, a, _, 0, _, rfl, rfl, SqT.of ha3, rfl, (n : Int), rfl, RgOk.of_le (by omega) (by omega) (by omega) (by omega), fun r hr' => ?_⟩
      obtain ⟨e4, h4⟩ := new2 hr' (.lst (rgV 0 (n : Int)))
      refine ⟨_, _, dp_L (l := List.range n) ⟨p, rfl, (e4 _ _ h3).trans (by rw [zz_vi])⟩, dp_L (l := List.range n) ⟨r, rfl, h4.trans (by rw [rgV0])⟩, shaped_list _, shaped_list _, ?_⟩
      rw [zz_eqv, decide_eq_true rfl]
      exact q _ _ ((e.trans e3).trans e4) rfl
abbrev N_named_by : List Str := ["web", "names", "one", "other"]
theorem sc_named_by : FnScope N_named_by ["web", "names"] (defScope x_named_by) := ⟨rfl, rfl, rfl, by decide +kernel, rfl, by decide +kernel, by decide +kernel⟩
theorem ok_named_by (D : DefAt K mg "named_by" x_named_by ["web", "names"]) (B : Free mg) (C_web_with : Cal P w K mg base 1 "web_with" ["many", "pairs"] sp_web_with) : Cal P w K mg base 2 "named_by" ["web", "names"] sp_named_by := by
  refine D.ok sc_named_by (fun vs H Q E h => ?_) (fun f cdv A outer s H vs Q E hr h => ?_)
  · obtain ⟨v, nv, n, E, fl, rfl, _⟩ := h
    rfl
  · obtain ⟨v, nv, n, E, fl, rfl, hw, hg, h8, ⟨nt, rfl, hnt⟩, hN, q⟩ := h
    refine ⟨_, (pss_one (ps_ret (pe_cal C_web_with hr (by decide) (by rfl) (pa_cons (pe_ix (ix_tupK (K := K) rfl) (pv 0) pe_int (fun _ _ => rfl)) (pa_cons (pe_lc (own := [("one", 2), ("other", 3)]) (g := gTup K 2 (gCons (gName 2) (gCons (gName 3) gNil))) (tt := tYes) (by rfl) sc_named_by.nd (pi_tupK (K := K) rfl (pe_ix (ix_tupK (K := K) rfl) (pv 0) pe_int (fun _ _ => rfl))) (blkOk_by (N := N_named_by) (sc := defScope x_named_by) (own := [("one", 2), ("other", 3)]) (by decide +kernel)) (fun _ _ _ _ _ => (pg_tupK (K := K) rfl (pg_tup rfl (pgs_cons (pg_name (i := 2) sc_named_by.nd rfl (Or.inl rfl)) (pgs_cons (pg_name (i := 3) sc_named_by.nd rfl (Or.inl rfl)) pgs_nil))))) (fun _ _ _ _ _ => pts_nil) (fun _ _ _ _ _ => (pe_tup (pa_cons (pe_ix (ix_tupK (K := K) rfl) (pv 1) (pv 2) (fun _ _ => rfl)) (pa_cons (pe_ix (ix_tupK (K := K) rfl) (pv 1) (pv 3) (fun _ _ => rfl)) pa_nil))))) pa_nil))))), ?_⟩
    obtain ⟨a, t, rfl, ha, ts, ht, hts⟩ := id hw
    have hE : E.length ≤ 28 := Nat.le_trans hg.len (tri8 n (by omega))
    refine ⟨_, rfl, a, _, 0, _, rfl, rfl, SqT.of ha, rfl, ?_⟩
    refine ⟨_, rfl, a, _, 1, _, rfl, rfl, SqT.of ha, rfl, t, rfl, ⟨ts, SqT.of ht⟩, fun D hD => ?_⟩
    refine lc_all hD E ts (rel_len hts) (fun e y H => IsP H (at0 fl e.1, at0 fl e.2) y) (fun x y H H' e h => h.mono (Ex.t e)) (walk_tup (K := K)) (fun H2 e => Evl.ex_t e (SqT.of ht)) (by rw [← rel_len hts]; omega) (fun j x s H2 Qn hx hs hy e k => ?_) fun H2 zs e hd hz => ?_
    · obtain ⟨y, hy2, pp, rfl, hpp⟩ := rel_get hts hx
      have es : s = .ref pp := Option.some.inj (hs.symm.trans hy2)
      subst es
      have lt := hg.lt x (List.mem_of_getElem? hx)
      have g1 : (fl.map vi)[x.1]? = some (vi (at0 fl x.1)) := by
        rw [List.getElem?_map, at0_some (by rw [hN.len]; omega)]
        rfl
      have g2 : (fl.map vi)[x.2]? = some (vi (at0 fl x.2)) := by
        rw [List.getElem?_map, at0_some (by rw [hN.len]; omega)]
        rfl
      refine ⟨pp, _, rfl, SqT.of (e _ _ hpp), rfl, vi x.1, [vi x.2], rfl, vi x.2, [], rfl, rfl, rfl, ?_⟩
      refine ⟨_, rfl, _, rfl, nt, _, (x.1 : Int), _, rfl, rfl, SqT.of (e _ _ hnt), at_nat g1, _, rfl, _, rfl, nt, _, (x.2 : Int), _, rfl, rfl, SqT.of (e _ _ hnt), at_nat g2, by show 2 ≤ sizeLine; decide, fun p hp => ?_⟩
      obtain ⟨e3, h3⟩ := new2 hp (.tup [vi (at0 fl x.1), vi (at0 fl x.2)])
      obtain ⟨us, hus⟩ := hy
      exact k _ _ e3 ⟨p, rfl, del_tup (e3 _ _ hus) _ _ h3⟩
    · refine ⟨n, D, zs, namePairs fl E, rfl, hd, paired_map (R := IsP H2) hz, by unfold namePairs; rw [List.length_map]; omega, fun p hp => ?_, fun u H3 R e3 hR hW => q u H3 R (e.trans e3) hR hW⟩
      obtain ⟨d, hd', rfl⟩ := mem_namePairs.mp hp
      have lt := hg.lt d hd'
      have := hN.lt (p := d.1) (by omega)
      have := hN.lt lt.2
      exact ⟨by omega, by omega⟩
abbrev N_renamed : List Str := ["web", "names"]
theorem sc_renamed : FnScope N_renamed ["web", "names"] (defScope x_renamed) := ⟨rfl, rfl, rfl, by decide +kernel, rfl, by decide +kernel, by decide +kernel⟩
theorem ok_renamed (D : DefAt K mg "renamed" x_renamed ["web", "names"]) (B : Free mg) (C_named_by : Cal P w K mg base 2 "named_by" ["web", "names"] sp_named_by) (C_names_good : Cal P w K mg base 2 "names_good" ["web", "thing"] sp_names_good) : Cal P w K mg base 3 "renamed" ["web", "names"] sp_renamed := by
  refine D.ok sc_renamed (fun vs H Q E h => ?_) (fun f cdv A outer s H vs Q E hr h => ?_)
  · obtain ⟨v, nv, n, E, fl, rfl, _⟩ := h
    rfl
  · obtain ⟨v, nv, n, E, fl, rfl, hw, hg, h8, hnt, hN, q⟩ := h
    refine ⟨_, (pss_cons (ps_if (pt_not (pt_val (pe_cal C_names_good hr (by decide) (by rfl) (pa_cons (pv 0) (pa_cons (pv 1) pa_nil))))) (pss_one ps_never) pss_nil)
      (pss_one (ps_ret (pe_cal C_named_by hr (by decide) (by rfl) (pa_cons (pv 0) (pa_cons (pv 1) pa_nil)))))), ?_⟩
    refine ⟨_, rfl, _, rfl, v, nv, n, E, fl, rfl, hw, by omega, hnt, hN, fun u H1 e1 hu => ?_⟩
    subst hu
    refine ⟨true, rfl, iteF ?_⟩
    exact ⟨_, rfl, _, rfl, v, nv, n, E, fl, rfl, hw.mono (Ex.t e1), hg, h8, hnt.mono (Ex.t e1), hN, fun u H2 R e2 hR hW => q u H2 R (e1.trans e2) hR hW⟩
abbrev N_sides_by : List Str := ["web", "found", "piece", "far", "place"]
theorem sc_sides_by : FnScope N_sides_by ["web"] (defScope x_sides_by) := ⟨rfl, rfl, rfl, by decide +kernel, rfl, by decide +kernel, by decide +kernel⟩
theorem ok_sides_by (D : DefAt K mg "sides_by" x_sides_by ["web"]) (B : Free mg) (C_pieces_of : Cal P w K mg base 3 "pieces_of" ["web"] sp_pieces_of) (C_fars : Cal P w K mg base 2 "fars" ["web", "place"] sp_fars) : Cal P w K mg base 4 "sides_by" ["web"] sp_sides_by := by
  refine D.ok sc_sides_by (fun vs H Q E h => ?_) (fun f cdv A outer s H vs Q E hr h => ?_)
  · obtain ⟨v, n, E, rfl, _⟩ := h
    rfl
  · obtain ⟨v, n, E, rfl, hw, hg, h16, q⟩ := h
    refine ⟨_, (pss_cons (ps_set (i := 1) sc_sides_by.nd rfl (Or.inl rfl) (pe_op op_rep (pe_lst (pa_cons pe_int pa_nil)) (pe_ix (ix_tupK (K := K) rfl) (pv 0) pe_int (fun _ _ => rfl))))
      (pss_cons (ps_for PassesOwn.never rfl (pi_listK (K := K) rfl (pe_cal C_pieces_of hr (by decide) (by rfl) (pa_cons (pv 0) pa_nil))) (pg_name (i := 2) sc_sides_by.nd rfl (Or.inl rfl)) (pss_cons (ps_set (i := 3) sc_sides_by.nd rfl (Or.inl rfl) (pe_cal C_fars hr (by decide) (by rfl) (pa_cons (pv 0) (pa_cons (pe_ix (ix_tupK (K := K) rfl) (pv 2) pe_int (fun _ _ => rfl)) pa_nil))))
      (pss_one (ps_for PassesOwn.never rfl (pi_tupK (K := K) rfl (pv 2)) (pg_name (i := 4) sc_sides_by.nd rfl (Or.inl rfl)) (pss_one (ps_asg (pe_op op_mod (pe_ix (ix_listK (K := K) rfl) (pv 3) (pv 4) (fun _ _ => rfl)) pe_int) (pg_sub (pv 1) (pv 4) set_list)))))))
      (pss_one (ps_ret (pe_callTy call_tuple_of (by rfl) B.tuple (by decide +kernel) (pa_cons (pv 1) pa_nil)))))), ?_⟩
    obtain ⟨a, t, rfl, ha, _⟩ := id hw
    -- found = [0] * web[0]
    refine ⟨by show 1 ≤ sizeLine; decide, fun l0 hl0 => ?_⟩
    obtain ⟨e2, h2⟩ := new2 hl0 (.lst [V.int 0])
    refine ⟨_, rfl, a, _, 0, _, rfl, rfl, SqT.of (e2 _ _ ha), rfl, l0, (n : Int), [V.int 0], rfl, rfl, h2, by omega, by omega, ?_, fun ff hff => ?_⟩
    · show 1 * ((n : Nat) : Int).toNat ≤ sizeLine
      rw [Int.toNat_natCast]
      exact Nat.le_of_lt (small1000 (by omega))
    obtain ⟨e3, h3⟩ := new2 hff (.lst ((List.replicate ((n : Nat) : Int).toNat [V.int 0]).flatten))
    have f0 : H ff = none := Evl.fresh_back e2 hff
    have e23 := e2.trans e3
    have h3' : upd (upd H l0 (.lst [V.int 0])) ff (.lst ((List.replicate ((n : Nat) : Int).toNat [V.int 0]).flatten)) ff = some (.lst (tab n fun v => some (sideSoFar n E [] [] v))) := by
      rw [upd_same, Int.toNat_natCast, tab_zero]
      rw [show (fun v => some (sideSoFar n E [] [] v)) = fun _ => some 0 from funext fun v => by rw [side_start]]
    -- for piece in pieces_of(web)
    refine ⟨_, rfl, .ref a, n, E, rfl, hw.mono (Ex.t e23), hg, h16, fun u H1 e1 hu => ?_⟩
    obtain ⟨⟨pl, vs, rfl, hl, hvs⟩, hfr⟩ := hu
    have npf : pl ≠ ff := fun z => by
      have := hfr pl rfl
      rw [z, h3'] at this
      cases this
    have hlen : vs.length = (roots n E n).length := by
      have := rel_len hvs
      rw [List.length_map] at this
      exact this.symm
    refine ⟨pl, rfl, ⟨vs, SqL.of hl⟩, ?_⟩
    refine for_list (K := K) (a := pl) (xs := vs) (fun i σ' H' => ∃ y2 y3 y4, σ' = [some (.ref a), some (.ref ff), y2, y3, y4] ∧ Ex H H' ∧ ExT H1 H' ∧ H' pl = some (.lst vs) ∧ H' ff = some (.lst (tab n fun v => some (sideSoFar n E ((roots n E n).take i) [] v))))
      ⟨_, _, _, rfl, e23.trans e1, Ex.t e1 |> fun _ => ExT.refl H1, hl, e1 _ _ h3'⟩ (fun i σ' H' _ ⟨_, _, _, _, _, _, h, _⟩ => SqL.of h) (fun i x σ' H' hx ⟨y2, y3, y4, es, ea, et, hpl, hf⟩ => ?_) (fun σ' H' ⟨y2, y3, y4, es, ea, et, hpl, hf⟩ => ?_)
    · subst es
      obtain ⟨pcl, hpc, pt, rfl, hpt⟩ := rel_get' hvs hx
      rw [List.getElem?_map] at hpc
      obtain ⟨r, hr', epc⟩ := Option.map_eq_some_iff.mp hpc
      subst epc
      obtain ⟨rlt, rr⟩ := mem_roots.mp (List.mem_of_getElem? hr')
      have hpt' := et _ _ hpt
      have g0 : ((pc n E r).map vi)[0]? = some (vi r) := by
        rw [List.getElem?_map, pc_head rlt, rr]
        rfl
      have tk : (roots n E n).take (i + 1) = (roots n E n).take i ++ [r] := by rw [List.take_add_one, hr']; rfl
      -- far = fars(web, piece[0])
      refine ⟨_, rfl, _, rfl, pt, _, ((0 : Nat) : Int), _, rfl, rfl, SqT.of hpt', at_nat g0, .ref a, n, E, r, rfl, hw.mono (Ex.t ea), hg, h16, rlt, fun u H3 e4 hu => ?_⟩
      obtain ⟨⟨fa, rfl, hfa⟩, hfr2⟩ := hu
      have nff : fa ≠ ff := fun z => by
        have := hfr2 fa rfl
        rw [z, hf] at this
        cases this
      have hpt3 := e4 _ _ hpt'
      -- for place in piece
      refine ⟨_, rfl, pt, rfl, ⟨_, SqT.of hpt3⟩, ?_⟩
      refine for_tup (K := K) (a := pt) (xs := (pc n E r).map vi) (fun j σ2 H2 => ∃ y4, σ2 = [some (.ref a), some (.ref ff), some (.ref pt), some (.ref fa), y4] ∧ Ex H H2 ∧ ExT H1 H2 ∧ H2 pl = some (.lst vs) ∧ H2 fa = some (.lst (tab n (dist E r))) ∧ H2 ff = some (.lst (tab n fun v => some (sideSoFar n E ((roots n E n).take i) ((pc n E r).take j) v))))
        ⟨_, rfl, ea.trans e4, et.trans (Ex.t e4), e4 _ _ hpl, hfa, e4 _ _ hf⟩ (fun j σ2 H2 _ ⟨_, _, _, h, _⟩ => SqT.of (h _ _ hpt)) (fun j x σ2 H2 hx2 ⟨y4, es2, ea2, et2, hpl2, hfa2, hf2⟩ => ?_) (fun σ2 H2 ⟨y4, es2, ea2, et2, hpl2, hfa2, hf2⟩ => ?_)
      · subst es2
        rw [List.getElem?_map] at hx2
        obtain ⟨v, hv, ev⟩ := Option.map_eq_some_iff.mp hx2
        subst ev
        have vm := List.mem_of_getElem? hv
        have vlt := (mem_pc.mp vm).1
        obtain ⟨d, hd, hside⟩ := side_of_pc rlt rr vm
        have tk2 : (pc n E r).take (j + 1) = (pc n E r).take j ++ [v] := by rw [List.take_add_one, hv]; rfl
        refine ⟨_, rfl, _, rfl, fa, _, (v : Int), _, rfl, rfl, SqL.of hfa2, at_nat (tab_get vlt), (d : Int), 2, by rw [hd]; rfl, rfl, (by show (0 : Int) < 2; decide), ?_⟩
        refine ⟨_, rfl, _, rfl, ff, _, (v : Int), v, rfl, rfl, hf2, ixN_ok (by rw [tab_len]; exact vlt), ?_⟩
        have eset : (tab n fun x => some (sideSoFar n E ((roots n E n).take i) ((pc n E r).take j) x)).set v (V.int ((d : Int) % 2)) = tab n fun x => some (sideSoFar n E ((roots n E n).take i) ((pc n E r).take (j + 1)) x) := by
          rw [natMod2, tab_set vlt, tk2]
          refine tab_ext fun x _ => ?_
          rw [side_turn]
          by_cases c : x = v
          · rw [if_pos c, if_pos c, hside]
          · rw [if_neg c, if_neg c]
        refine ⟨_, rfl, Evl.Ex.mut ea2 f0, et2.trans (extT_upd hf2), by rw [upd_ne npf]; exact hpl2, by rw [upd_ne nff]; exact hfa2, ?_⟩
        show upd H2 ff (.lst ((tab n fun x => some (sideSoFar n E ((roots n E n).take i) ((pc n E r).take j) x)).set v (V.int ((d : Int) % 2)))) ff = _
        rw [upd_same, eset]
      · subst es2
        rw [List.length_map, List.take_length] at hf2
        refine ⟨_, _, _, rfl, ea2, et2, hpl2, ?_⟩
        rw [hf2, tk]
        refine congrArg (fun z => some (HO.lst z)) (tab_ext fun v hv => ?_)
        rw [side_piece rlt rr hv]
    · subst es
      have ft : (roots n E n).take vs.length = roots n E n := by rw [hlen, List.take_length]
      rw [ft] at hf
      refine ⟨_, rfl, ff, _, rfl, .inl ⟨SqL.of hf, fun p hp => ?_⟩⟩
      obtain ⟨e5, h5⟩ := new2 hp (.tup (tab n fun v => some (sideSoFar n E (roots n E n) [] v)))
      refine q _ _ (ea.trans e5) ⟨p, rfl, ?_⟩
      rw [h5, tab_ext (G := fun v => some (side n E v)) fun v hv => by rw [side_all hv], tab_vi]
abbrev N_are_unlike : List Str := ["web", "sides", "one", "other"]
theorem sc_are_unlike : FnScope N_are_unlike ["web", "sides"] (defScope x_are_unlike) := ⟨rfl, rfl, rfl, by decide +kernel, rfl, by decide +kernel, by decide +kernel⟩
theorem ok_are_unlike (D : DefAt K mg "are_unlike" x_are_unlike ["web", "sides"]) (B : Free mg) : Cal P w K mg base 1 "are_unlike" ["web", "sides"] sp_are_unlike := by
  refine D.ok sc_are_unlike (fun vs H Q E h => ?_) (fun f cdv A outer s H vs Q E hr h => ?_)
  · obtain ⟨v, sv, n, E, c, rfl, _⟩ := h
    rfl
  · obtain ⟨v, sv, n, E, c, rfl, hw, hg, h16, ⟨nt, rfl, hnt⟩, q⟩ := h
    refine ⟨_, (pss_one (ps_ret (pe_callB (cr_all (by rfl)) (by rfl) B.all (by decide +kernel) (pa_cons (pe_lc (own := [("one", 2), ("other", 3)]) (g := gTup K 2 (gCons (gName 2) (gCons (gName 3) gNil))) (tt := tYes) (by rfl) sc_are_unlike.nd (pi_tupK (K := K) rfl (pe_ix (ix_tupK (K := K) rfl) (pv 0) pe_int (fun _ _ => rfl))) (blkOk_by (N := N_are_unlike) (sc := defScope x_are_unlike) (own := [("one", 2), ("other", 3)]) (by decide +kernel)) (fun _ _ _ _ _ => (pg_tupK (K := K) rfl (pg_tup rfl (pgs_cons (pg_name (i := 2) sc_are_unlike.nd rfl (Or.inl rfl)) (pgs_cons (pg_name (i := 3) sc_are_unlike.nd rfl (Or.inl rfl)) pgs_nil))))) (fun _ _ _ _ _ => pts_nil) (fun _ _ _ _ _ => (pe_cmpR op_ne (pe_ix (ix_tupK (K := K) rfl) (pv 1) (pv 2) (fun _ _ => rfl)) (pe_ix (ix_tupK (K := K) rfl) (pv 1) (pv 3) (fun _ _ => rfl)) (nomark _)))) pa_nil)))), ?_⟩
    obtain ⟨a, t, rfl, ha, ts, ht, hts⟩ := id hw
    have hE : E.length ≤ 120 := Nat.le_trans hg.len (tri16 n (by omega))
    refine ⟨_, rfl, a, _, 1, _, rfl, rfl, SqT.of ha, rfl, t, rfl, ⟨ts, SqT.of ht⟩, fun D hD => ?_⟩
    refine lc_all hD E ts (rel_len hts) (fun e y _ => y = V.bl (!decide (c e.1 = c e.2))) (fun _ _ _ _ _ h => h) (walk_tup (K := K)) (fun H2 e => Evl.ex_t e (SqT.of ht)) (by rw [← rel_len hts]; omega) (fun j x s H2 Qn hx hs hy e k => ?_) fun H2 zs e hd hz => ?_
    · obtain ⟨y, hy2, pp, rfl, hpp⟩ := rel_get hts hx
      have es : s = .ref pp := Option.some.inj (hs.symm.trans hy2)
      subst es
      have lt := hg.lt x (List.mem_of_getElem? hx)
      have g1 : (((List.range n).map c).map vi)[x.1]? = some (vi (c x.1)) := by
        rw [List.getElem?_map, at0_map (by omega)]
        rfl
      have g2 : (((List.range n).map c).map vi)[x.2]? = some (vi (c x.2)) := by
        rw [List.getElem?_map, at0_map (by omega)]
        rfl
      refine ⟨pp, _, rfl, SqT.of (e _ _ hpp), rfl, vi x.1, [vi x.2], rfl, vi x.2, [], rfl, rfl, rfl, ?_⟩
      refine ⟨_, rfl, _, rfl, nt, _, (x.1 : Int), _, rfl, rfl, SqT.of (e _ _ hnt), at_nat g1, _, rfl, _, rfl, nt, _, (x.2 : Int), _, rfl, rfl, SqT.of (e _ _ hnt), at_nat g2, rfl, k _ _ (Evl.Ex.refl _) ?_⟩
      congr 2
      exact decide_eq_decide.mpr ⟨fun z => by have z2 : ((c x.1 : Nat) : Int) = ((c x.2 : Nat) : Int) := V.int.inj z; omega, fun z => by rw [z]⟩
    · have ez := rel_map hz
      have ez2 : E.map (fun e => V.bl (!decide (c e.1 = c e.2))) = (E.map fun e => !decide (c e.1 = c e.2)).map V.bl := by
        rw [List.map_map]
        rfl
      rw [ez2] at ez
      subst ez
      refine ⟨D, _, rfl, SqL.of hd, q _ _ e ?_⟩
      unfold unlikeB
      rw [List.all_map]
      rfl
abbrev N_sides_of : List Str := ["web", "found"]
theorem sc_sides_of : FnScope N_sides_of ["web"] (defScope x_sides_of) := ⟨rfl, rfl, rfl, by decide +kernel, rfl, by decide +kernel, by decide +kernel⟩
theorem ok_sides_of (D : DefAt K mg "sides_of" x_sides_of ["web"]) (B : Free mg) (C_are_unlike : Cal P w K mg base 1 "are_unlike" ["web", "sides"] sp_are_unlike) (C_sides_by : Cal P w K mg base 4 "sides_by" ["web"] sp_sides_by) : Cal P w K mg base 5 "sides_of" ["web"] sp_sides_of := by
  refine D.ok sc_sides_of (fun vs H Q E h => ?_) (fun f cdv A outer s H vs Q E hr h => ?_)
  · obtain ⟨v, n, E, rfl, _⟩ := h
    rfl
  · obtain ⟨v, n, E, rfl, hw, hg, h16, q⟩ := h
    refine ⟨_, (pss_cons (ps_set (i := 1) sc_sides_of.nd rfl (Or.inl rfl) (pe_cal C_sides_by hr (by decide) (by rfl) (pa_cons (pv 0) pa_nil)))
      (pss_cons (ps_if (pt_not (pt_val (pe_cal C_are_unlike hr (by decide) (by rfl) (pa_cons (pv 0) (pa_cons (pv 1) pa_nil))))) (pss_one (ps_ret pe_non)) pss_nil)
      (pss_one (ps_ret (pv 1))))), ?_⟩
    refine ⟨_, rfl, v, n, E, rfl, hw, hg, h16, fun u H1 e1 hu => ?_⟩
    refine ⟨_, rfl, _, rfl, v, u, n, E, side n E, rfl, hw.mono (Ex.t e1), hg, h16, hu, fun b H2 e2 hb => ?_⟩
    subst hb
    refine ⟨_, rfl, ?_⟩
    cases z : unlikeB E (side n E) with
    | true =>
      refine iteF ?_
      exact ⟨_, rfl, q _ _ (e1.trans e2) (.inl ⟨z, hu.mono (Ex.t e2)⟩)⟩
    | false =>
      refine iteT ?_
      exact q _ _ (e1.trans e2) (.inr ⟨z, rfl⟩)
abbrev N_sides_good : List Str := ["web", "thing", "side"]
theorem sc_sides_good : FnScope N_sides_good ["web", "thing"] (defScope x_sides_good) := ⟨rfl, rfl, rfl, by decide +kernel, rfl, by decide +kernel, by decide +kernel⟩
theorem ok_sides_good (D : DefAt K mg "sides_good" x_sides_good ["web", "thing"]) (B : Free mg) (C_sides_by : Cal P w K mg base 4 "sides_by" ["web"] sp_sides_by) (C_are_unlike : Cal P w K mg base 1 "are_unlike" ["web", "sides"] sp_are_unlike) (C_is_upto : Cal P w K mg base 2 "is_upto" ["thing", "low", "high"] sp_is_upto) : Cal P w K mg base 5 "sides_good" ["web", "thing"] sp_sides_good := by
  refine D.ok sc_sides_good (fun vs H Q E h => ?_) (fun f cdv A outer s H vs Q E hr h => ?_)
  · obtain ⟨v, sv, n, E, rfl, _⟩ := h
    rfl
  · obtain ⟨v, sv, n, E, rfl, hw, hg, h16, hs0, hu0, q⟩ := h
    obtain ⟨nt, rfl, hnt⟩ := id hs0
    refine ⟨_, (pss_cons (ps_if (PW.pt (pw_or (pt_not (pt_val (pe_callB call_isi (by rfl) B.isinstance (by decide +kernel) (pa_cons (pv 1) (pa_cons (pe_bltn (v := .ty "tuple") (by rfl) B.tuple (by decide +kernel) rfl) pa_nil))))) (pw_or (pt_cmpR op_ne (pe_callB (len_seqK (K := K) rfl) (by rfl) B.len (by decide +kernel) (pa_cons (pv 1) pa_nil)) (pe_ix (ix_tupK (K := K) rfl) (pv 0) pe_int (fun _ _ => rfl)) (nomark _)) (pw_or1 (pt_not (pt_val (pe_callB (cr_all (by rfl)) (by rfl) B.all (by decide +kernel) (pa_cons (pe_lc (own := [("side", 2)]) (g := gName 2) (tt := tYes) (by rfl) sc_sides_good.nd (pi_tupK (K := K) rfl (pv 1)) (blkOk_by (N := N_sides_good) (sc := defScope x_sides_good) (own := [("side", 2)]) (by decide +kernel)) (fun _ _ _ _ _ => (pg_name (i := 2) sc_sides_good.nd rfl (Or.inl rfl))) (fun _ _ _ _ _ => pts_nil) (fun _ _ _ _ _ => (pe_cal C_is_upto hr (by decide) (by rfl) (pa_cons (pv 2) (pa_cons pe_int (pa_cons pe_int pa_nil)))))) pa_nil)))))))) (pss_one (ps_ret pe_bl)) pss_nil)
      (pss_one (ps_ret (pe_and (pe_cal C_are_unlike hr (by decide) (by rfl) (pa_cons (pv 0) (pa_cons (pv 1) pa_nil))) (pe_one (pe_cmpR (eqDK (K := K) rfl hr.units) (pv 1) (pe_cal C_sides_by hr (by decide) (by rfl) (pa_cons (pv 0) pa_nil)) (nomark _))))))), ?_⟩
    obtain ⟨a, t, rfl, ha, ts, ht, hts⟩ := id hw
    refine ⟨_, rfl, _, _, .type "tuple", .type "tuple", true, rfl, .ty "tuple", .base (.tup hnt), kit_ty (by decide +kernel), true, rfl, iteF ?_⟩
    refine ⟨_, rfl, nt, _, rfl, .inr (SqT.of hnt), _, rfl, a, _, 0, _, rfl, rfl, SqT.of ha, rfl, rfl, _, rfl, ?_⟩
    have el : V.int (((((List.range n).map (side n E)).map vi).length : Nat) : Int) = vi n := by rw [List.length_map, List.length_map, List.length_range]
    rw [el, decide_eq_true rfl]
    refine iteF ?_
    refine ⟨_, rfl, nt, rfl, ⟨_, SqT.of hnt⟩, fun D hD => ?_⟩
    refine lc_all hD ((List.range n).map (side n E)) (((List.range n).map (side n E)).map vi) (by simp) (fun j y _ => y = V.bl true) (fun _ _ _ _ _ h => h) (walk_tup (K := K)) (fun H2 e => Evl.ex_t e (SqT.of hnt)) (by rw [List.length_map, List.length_map, List.length_range]; omega) (fun j x s H2 Qn hx hs hy e k => ?_) fun H2 zs e hd hz => ?_
    · rw [List.getElem?_map, hx] at hs
      have es : vi x = s := Option.some.inj hs
      subst es
      obtain ⟨y, _, ey⟩ := List.mem_map.mp (List.mem_of_getElem? hx)
      have hlt := side_lt n E y
      refine ⟨rfl, _, rfl, (x : Int), 0, 1, rfl, k _ _ (Evl.Ex.refl _) ?_⟩
      rw [decide_eq_true (by omega), decide_eq_true (by omega)]
      rfl
    · have ez := rel_map hz
      rw [map_true] at ez
      subst ez
      refine ⟨D, _, rfl, SqL.of hd, ?_⟩
      rw [all_true]
      refine ⟨true, rfl, iteF ?_⟩
      refine ⟨_, rfl, _, rfl, .ref a, .ref nt, n, E, side n E, rfl, hw.mono (Ex.t e), hg, h16, hs0.mono (Ex.t e), fun b H3 e3 hb => ?_⟩
      subst hb
      rw [hu0]
      refine ⟨true, rfl, iteT ?_⟩
      refine ⟨_, rfl, _, rfl, .ref a, n, E, rfl, hw.mono (Ex.t (e.trans e3)), hg, h16, fun u H4 e4 hu => ?_⟩
      refine ⟨_, _, dp_T ((hs0.mono (Ex.t (e.trans e3))).mono (Ex.t e4)), dp_T hu, shaped_tup _, shaped_tup _, ?_⟩
      rw [zz_eqvT, decide_eq_true rfl]
      exact q _ _ ((e.trans e3).trans e4) rfl
end
end Nsr
end
section
set_option Elab.async false
set_option linter.all false
set_option maxRecDepth 100000
set_option maxHeartbeats 4000000
set_option autoImplicit false
namespace Nsr
open PySem PySem.Spec PyProof.Rows L2
def sp_double_by : Sp := fun vs H Q _ => ∃ (v : V) (n : Nat) (E : Es), vs = [v] ∧ IsW H v n E ∧ Good n E ∧ n ≤ 8 ∧ ∀ u H' D, Ex H H' → ByPairs (dblPairs n E) D → IsW H' u (2 * n) D → Q u H'
def sp_doubled : Sp := sp_double_by
def sp_doubled_ring : Sp := fun vs H Q _ => ∃ (v : V) (n : Nat) (E : Es), vs = [v] ∧ IsW H v n E ∧ Good n E ∧ n ≤ 8 ∧ ∀ u H' D, Ex H H' → ByPairs (dblPairs n E) D → u = oV (girth D) → Q u H'
def sp_place_goes : Sp := fun vs H Q _ => ∃ (nv ov tv : V) (n : Nat) (E : Es) (m : Nat) (F : Es) (r : List Nat) (p : Nat), vs = [nv, ov, tv, vi p] ∧ n ≤ 16 ∧ m ≤ 16 ∧ IsLL H ((List.range n).map (nb n E)) nv ∧ IsLL H ((List.range m).map (nb m F)) ov ∧ IsT H r tv ∧
  Fold n (nb n E) m (nb m F) r ∧ p < n ∧ Ret (fun u _ => u = .bl true) H Q
def sp_fold_good : Sp := fun vs H Q _ => ∃ (v ov tv : V) (n : Nat) (E : Es) (m : Nat) (F : Es) (r : List Nat), vs = [v, ov, tv] ∧ IsW H v n E ∧ Good n E ∧ n ≤ 16 ∧ IsW H ov m F ∧ Good m F ∧ m ≤ 16 ∧ IsT H r tv ∧ Fold n (nb n E) m (nb m F) r ∧ Ret (fun u _ => u = .bl true) H Q
section
variable {P : Program} {w : World} {K : PySem.W.Frag} {mg : Str → Option Value} {base : Heap}
abbrev N_double_by : List Str := ["web", "many", "pairs", "one", "other"]
theorem sc_double_by : FnScope N_double_by ["web"] (defScope x_double_by) := ⟨rfl, rfl, rfl, by decide +kernel, rfl, by decide +kernel, by decide +kernel⟩
theorem ok_double_by (D : DefAt K mg "double_by" x_double_by ["web"]) (B : Free mg) (C_web_with : Cal P w K mg base 1 "web_with" ["many", "pairs"] sp_web_with) : Cal P w K mg base 2 "double_by" ["web"] sp_double_by := by
  refine D.ok sc_double_by (fun vs H Q E h => ?_) (fun f cdv A outer s H vs Q E hr h => ?_)
  · obtain ⟨v, n, E, rfl, _⟩ := h
    rfl
  · obtain ⟨v, n, E, rfl, hw, hg, h8, q⟩ := h
    refine ⟨_, (pss_cons (ps_set (i := 1) sc_double_by.nd rfl (Or.inl rfl) (pe_ix (ix_tupK (K := K) rfl) (pv 0) pe_int (fun _ _ => rfl)))
      (pss_cons (ps_set (i := 2) sc_double_by.nd rfl (Or.inl rfl) (pe_lst pa_nil))
      (pss_cons (ps_for PassesOwn.never rfl (pi_tupK (K := K) rfl (pe_ix (ix_tupK (K := K) rfl) (pv 0) pe_int (fun _ _ => rfl))) (pg_tupK (K := K) rfl (pg_tup rfl (pgs_cons (pg_name (i := 3) sc_double_by.nd rfl (Or.inl rfl)) (pgs_cons (pg_name (i := 4) sc_double_by.nd rfl (Or.inl rfl)) pgs_nil)))) (pss_one (ps_expr (pe_bmK (K := K) rfl (pe_bm PySem.F.plainAttrs_list PySem.F.slot_list_extend PySem.F.type_list_extend mt_extend (pv 2) (pa_cons (pe_lst (pa_cons (pe_tup (pa_cons (pv 3) (pa_cons (pe_op op_add (pv 4) (pv 1)) pa_nil))) (pa_cons (pe_tup (pa_cons (pv 4) (pa_cons (pe_op op_add (pv 3) (pv 1)) pa_nil))) pa_nil))) pa_nil))))))
      (pss_one (ps_ret (pe_cal C_web_with hr (by decide) (by rfl) (pa_cons (pe_op op_mul pe_int (pv 1)) (pa_cons (pv 2) pa_nil)))))))), ?_⟩
    obtain ⟨a, t, rfl, ha, ts, ht, hts⟩ := id hw
    have hE : E.length ≤ 28 := Nat.le_trans hg.len (tri8 n (by omega))
    refine ⟨_, rfl, a, _, 0, _, rfl, rfl, SqT.of ha, rfl, ?_⟩
    refine ⟨Nat.zero_le _, fun pp hpp => ?_⟩
    obtain ⟨e1, h1⟩ := new2 hpp (.lst [])
    refine ⟨_, rfl, a, _, 1, _, rfl, rfl, SqT.of (e1 _ _ ha), rfl, t, rfl, ⟨ts, SqT.of (e1 _ _ ht)⟩, ?_⟩
    refine for_tup (K := K) (a := t) (xs := ts) (fun i σ' H' => ∃ y3 y4 ys, σ' = [some (.ref a), some (vi n), some (.ref pp), y3, y4] ∧ Ex H H' ∧ H' pp = some (.lst ys) ∧ Paired (IsP H') (dblPairs n (E.take i)) ys)
      ⟨_, _, [], rfl, e1, h1, .nil⟩ (fun i σ' H' _ ⟨_, _, _, _, e, _⟩ => SqT.of (e _ _ ht)) (fun i x σ' H' hx ⟨y3, y4, ys, es, e, hp, hr'⟩ => ?_) (fun σ' H' ⟨y3, y4, ys, es, e, hp, hr'⟩ => ?_)
    · subst es
      obtain ⟨d, hd, p, rfl, hpd⟩ := rel_get' hts hx
      have tk : E.take (i + 1) = E.take i ++ [d] := by rw [List.take_add_one, hd]; rfl
      refine ⟨p, _, rfl, SqT.of (e _ _ hpd), rfl, vi d.1, [vi d.2], rfl, vi d.2, [], rfl, rfl, ?_⟩
      refine ⟨_, rfl, .inl ⟨rfl, _, SqL.of hp⟩, ?_⟩
      refine ⟨_, rfl, _, rfl, _, rfl, (d.2 : Int), (n : Int), rfl, rfl, by show 2 ≤ sizeLine; decide, fun p1 hp1 => ?_⟩
      obtain ⟨e2, h2⟩ := new2 hp1 (.tup [vi d.1, .int ((d.2 : Int) + (n : Int))])
      refine ⟨_, rfl, _, rfl, _, rfl, (d.1 : Int), (n : Int), rfl, rfl, by show 2 ≤ sizeLine; decide, fun p2 hp2 => ?_⟩
      obtain ⟨e3, h3⟩ := new2 hp2 (.tup [vi d.2, .int ((d.1 : Int) + (n : Int))])
      refine ⟨by show 2 ≤ sizeLine; decide, fun p3 hp3 => ?_⟩
      obtain ⟨e4, h4⟩ := new2 hp3 (.lst [.ref p1, .ref p2])
      have e34 := e3.trans e4
      have hp' := e34 _ _ (e2 _ _ hp)
      have hl : ys.length = (dblPairs n (E.take i)).length := (rel_len hr').symm
      refine ⟨pp, p3, _, _, rfl, rfl, hp', h4, ?_, ?_⟩
      · rw [hl, dbl_len, List.length_take]
        show 2 * min i E.length + 2 ≤ sizeLine
        exact Nat.le_of_lt (small1000 (by omega))
      · refine ⟨_, _, ys ++ [.ref p1, .ref p2], rfl, Evl.Ex.mut (e.trans (e2.trans e34)) hpp, upd_same, ?_⟩
        have ek : dblPairs n (E.take (i + 1)) = dblPairs n (E.take i) ++ [(d.1, d.2 + n)] ++ [(d.2, d.1 + n)] := by
          rw [tk]
          unfold dblPairs
          simp
        have ey : ys ++ [V.ref p1, V.ref p2] = ys ++ [.ref p1] ++ [.ref p2] := by simp
        rw [ek, ey]
        have et := extT_upd (o := .lst (ys ++ [.ref p1, .ref p2])) hp'
        have et0 := (Ex.t (e2.trans e34)).trans et
        rw [ey] at et et0
        exact Paired.snoc (Paired.snoc (rel_mono hr' fun x z q => q.mono et0) (IsP.mono ((Ex.t e34).trans et) ⟨p1, rfl, h2⟩)) (IsP.mono ((Ex.t e4).trans et) ⟨p2, rfl, h3⟩)
    · subst es
      have ft : E.take ts.length = E := by rw [← rel_len hts, List.take_length]
      rw [ft] at hr'
      refine ⟨_, rfl, 2, (n : Int), rfl, rfl, .inl ⟨by decide, by decide⟩, _, rfl, ?_⟩
      refine ⟨2 * n, pp, ys, dblPairs n E, rfl, hp, hr', by rw [dbl_len]; omega, fun p hp2 => ?_, fun u H3 D e3 hD hW => q u H3 D (e.trans e3) hD hW⟩
      obtain ⟨d, hd, z | z⟩ := mem_dblPairs.mp hp2
      · have lt := hg.lt d hd
        rw [z]
        exact ⟨by show d.1 < 64; omega, by show d.2 + n < 64; omega⟩
      · have lt := hg.lt d hd
        rw [z]
        exact ⟨by show d.2 < 64; omega, by show d.1 + n < 64; omega⟩
abbrev N_doubled : List Str := ["web"]
theorem sc_doubled : FnScope N_doubled ["web"] (defScope x_doubled) := ⟨rfl, rfl, rfl, by decide +kernel, rfl, by decide +kernel, by decide +kernel⟩
theorem ok_doubled (D : DefAt K mg "doubled" x_doubled ["web"]) (B : Free mg) (C_double_by : Cal P w K mg base 2 "double_by" ["web"] sp_double_by) {tM : Tok} (hM : mg "MOST_PLACES" = some (.int 16 tM)) : Cal P w K mg base 3 "doubled" ["web"] sp_doubled := by
  refine D.ok sc_doubled (fun vs H Q E h => ?_) (fun f cdv A outer s H vs Q E hr h => ?_)
  · obtain ⟨v, n, E, rfl, _⟩ := h
    rfl
  · obtain ⟨v, n, E, rfl, hw, hg, h8, q⟩ := h
    refine ⟨_, (pss_cons (ps_if (pt_cmpR op_gt (pe_op op_mul pe_int (pe_ix (ix_tupK (K := K) rfl) (pv 0) pe_int (fun _ _ => rfl))) (pe_glob (v := .int 16) (by rfl) hM ⟨_, rfl⟩) (nomark _)) (pss_one ps_never) pss_nil)
      (pss_one (ps_ret (pe_cal C_double_by hr (by decide) (by rfl) (pa_cons (pv 0) pa_nil))))), ?_⟩
    obtain ⟨a, t, rfl, ha, ts, ht, hts⟩ := id hw
    refine ⟨_, rfl, a, _, 0, _, rfl, rfl, SqT.of ha, rfl, 2, (n : Int), rfl, rfl, .inl ⟨by decide, by decide⟩, 2 * (n : Int), 16, rfl, rfl, _, rfl, ?_⟩
    rw [decide_eq_false (by omega)]
    refine iteF ?_
    exact ⟨_, rfl, .ref a, n, E, rfl, hw, hg, h8, q⟩
abbrev N_doubled_ring : List Str := ["web"]
theorem sc_doubled_ring : FnScope N_doubled_ring ["web"] (defScope x_doubled_ring) := ⟨rfl, rfl, rfl, by decide +kernel, rfl, by decide +kernel, by decide +kernel⟩
theorem ok_doubled_ring (D : DefAt K mg "doubled_ring" x_doubled_ring ["web"]) (B : Free mg) (C_shortest : Cal P w K mg base 4 "shortest" ["web"] sp_shortest) (C_double_by : Cal P w K mg base 2 "double_by" ["web"] sp_double_by) : Cal P w K mg base 5 "doubled_ring" ["web"] sp_doubled_ring := by
  refine D.ok sc_doubled_ring (fun vs H Q E h => ?_) (fun f cdv A outer s H vs Q E hr h => ?_)
  · obtain ⟨v, n, E, rfl, _⟩ := h
    rfl
  · obtain ⟨v, n, E, rfl, hw, hg, h8, q⟩ := h
    refine ⟨_, (pss_one (ps_ret (pe_cal C_shortest hr (by decide) (by rfl) (pa_cons (pe_cal C_double_by hr (by decide) (by rfl) (pa_cons (pv 0) pa_nil)) pa_nil)))), ?_⟩
    refine ⟨_, rfl, v, n, E, rfl, hw, hg, h8, fun u H1 D e1 hD hW => ?_⟩
    exact ⟨u, 2 * n, D, rfl, hW, dbl_good hg hD, by omega, fun b H2 e2 hb => q b H2 D (e1.trans e2) hD hb⟩
abbrev N_place_goes : List Str := ["nears", "others", "thing", "place", "near"]
theorem sc_place_goes : FnScope N_place_goes ["nears", "others", "thing", "place"] (defScope x_place_goes) := ⟨rfl, rfl, rfl, by decide +kernel, rfl, by decide +kernel, by decide +kernel⟩
theorem ok_place_goes (D : DefAt K mg "place_goes" x_place_goes ["nears", "others", "thing", "place"]) (B : Free mg) : Cal P w K mg base 1 "place_goes" ["nears", "others", "thing", "place"] sp_place_goes := by
  refine D.ok sc_place_goes (fun vs H Q E h => ?_) (fun f cdv A outer s H vs Q E hr h => ?_)
  · obtain ⟨nv, ov, tv, n, E, m, F, r, p, rfl, _⟩ := h
    rfl
  · obtain ⟨nv, ov, tv, n, E, m, F, r, p, rfl, hn, hm, hnv, hov, ⟨rt, rfl, hrt⟩, hF, hp, q⟩ := h
    refine ⟨_, (pss_one (ps_ret (pe_cmpR (eqDK (K := K) rfl hr.units) (pe_callB (sortedK (K := K) rfl) (by rfl) B.sorted (by decide +kernel) (pa_cons (pe_lc (own := [("near", 4)]) (g := gName 4) (tt := tYes) (by rfl) sc_place_goes.nd (pi_listK (K := K) rfl (pe_ix (ix_listK (K := K) rfl) (pv 0) (pv 3) (fun _ _ => rfl))) (blkOk_by (N := N_place_goes) (sc := defScope x_place_goes) (own := [("near", 4)]) (by decide +kernel)) (fun _ _ _ _ _ => (pg_name (i := 4) sc_place_goes.nd rfl (Or.inl rfl))) (fun _ _ _ _ _ => pts_nil) (fun _ _ _ _ _ => (pe_ix (ix_tupK (K := K) rfl) (pv 2) (pv 4) (fun _ _ => rfl)))) pa_nil)) (pe_ix (ix_listK (K := K) rfl) (pv 1) (pe_ix (ix_tupK (K := K) rfl) (pv 2) (pv 3) (fun _ _ => rfl)) (fun _ _ => rfl)) (nomark _)))), ?_⟩
    obtain ⟨pl, vs, b, rfl, hl, hv, hb⟩ := LL_get hnv hp
    have hrl : r.length = n := hF.len
    have rlt : ∀ x, x < n → at0 r x < m := fun x hx => hF.lt _ (at0_mem (by omega))
    refine ⟨_, rfl, _, rfl, pl, vs, (p : Int), _, rfl, rfl, SqL.of hl, at_nat hv, b, rfl, ⟨_, SqL.of hb⟩, fun D hD => ?_⟩
    refine lc_all hD (nb n E p) ((nb n E p).map vi) (by rw [List.length_map]) (fun j y _ => y = vi (at0 r j)) (fun _ _ _ _ _ h => h) (walk_list (K := K)) (fun H2 e => Evl.ex_l e (SqL.of hb)) (by rw [List.length_map]; have := nb_len n E p; omega) (fun j x s H2 Qn hx hs hy e k => ?_) fun H2 zs e hd hz => ?_
    · rw [List.getElem?_map, hx] at hs
      have es : vi x = s := Option.some.inj hs
      subst es
      have xlt := (mem_nb.mp (List.mem_of_getElem? hx)).1
      have gx : (r.map vi)[x]? = some (vi (at0 r x)) := by
        rw [List.getElem?_map, at0_some (by omega)]
        rfl
      exact ⟨rfl, _, rfl, _, rfl, rt, _, (x : Int), _, rfl, rfl, SqT.of (e _ _ hrt), at_nat gx, k _ _ (Evl.Ex.refl _) rfl⟩
    · have ez := rel_map hz
      have ez2 : (nb n E p).map (fun j => vi (at0 r j)) = (zz ((nb n E p).map (at0 r))).map V.int := by
        rw [zz_vi, List.map_map]
        rfl
      rw [ez2] at ez
      subst ez
      refine ⟨D, zz ((nb n E p).map (at0 r)), rfl, SqL.of hd, by rw [zz_len, List.length_map]; have := nb_len n E p; omega, fun ns' p2 pm pw hp2 => ?_⟩
      obtain ⟨l', rfl, p1, pp⟩ := zz_sorted pm pw
      have pg := p1.trans (hF.goes p hp)
      have el : l' = nb m F (at0 r p) := lt_ext (le_lt pp (pg.nodup_iff.mpr (nb_nodup m F _))) (nb_lt m F _) fun x => pg.mem_iff
      subst el
      obtain ⟨e3, h3⟩ := new2 hp2 (.lst ((zz (nb m F (at0 r p))).map V.int))
      obtain ⟨pl2, vs2, b2, rfl, hl2, hv2, hb2⟩ := LL_get hov (rlt p hp)
      have gp : (r.map vi)[p]? = some (vi (at0 r p)) := by
        rw [List.getElem?_map, at0_some (by omega)]
        rfl
      refine ⟨_, rfl, _, rfl, _, rfl, rt, _, (p : Int), _, rfl, rfl, SqT.of (e3 _ _ (e _ _ hrt)), at_nat gp, pl2, vs2, ((at0 r p : Nat) : Int), _, rfl, rfl, SqL.of (e3 _ _ (e _ _ hl2)), at_nat hv2, ?_⟩
      refine ⟨_, _, dp_L (l := nb m F (at0 r p)) ⟨p2, rfl, h3.trans (by rw [zz_vi])⟩, dp_L (l := nb m F (at0 r p)) ⟨b2, rfl, e3 _ _ (e _ _ hb2)⟩, shaped_list _, shaped_list _, ?_⟩
      rw [zz_eqv, decide_eq_true rfl]
      exact q _ _ (e.trans e3) rfl
abbrev N_fold_good : List Str := ["web", "other", "thing", "place", "nears", "others"]
theorem sc_fold_good : FnScope N_fold_good ["web", "other", "thing"] (defScope x_fold_good) := ⟨rfl, rfl, rfl, by decide +kernel, rfl, by decide +kernel, by decide +kernel⟩
theorem ok_fold_good (D : DefAt K mg "fold_good" x_fold_good ["web", "other", "thing"]) (B : Free mg) (C_place_goes : Cal P w K mg base 1 "place_goes" ["nears", "others", "thing", "place"] sp_place_goes) (C_nears_of : Cal P w K mg base 1 "nears_of" ["web"] sp_nears_of) (C_is_whole : Cal P w K mg base 1 "is_whole" ["thing"] sp_is_whole) : Cal P w K mg base 2 "fold_good" ["web", "other", "thing"] sp_fold_good := by
  refine D.ok sc_fold_good (fun vs H Q E h => ?_) (fun f cdv A outer s H vs Q E hr h => ?_)
  · obtain ⟨v, ov, tv, n, E, m, F, r, rfl, _⟩ := h
    rfl
  · obtain ⟨v, ov, tv, n, E, m, F, r, rfl, hw, hg, h16, hw2, hg2, h162, ⟨rt, rfl, hrt⟩, hF, q⟩ := h
    refine ⟨_, (pss_cons (ps_if (PW.pt (pw_or (pt_not (pt_val (pe_callB call_isi (by rfl) B.isinstance (by decide +kernel) (pa_cons (pv 2) (pa_cons (pe_bltn (v := .ty "tuple") (by rfl) B.tuple (by decide +kernel) rfl) pa_nil))))) (pw_or1 (pt_cmpR op_ne (pe_callB (len_seqK (K := K) rfl) (by rfl) B.len (by decide +kernel) (pa_cons (pv 2) pa_nil)) (pe_ix (ix_tupK (K := K) rfl) (pv 0) pe_int (fun _ _ => rfl)) (nomark _))))) (pss_one (ps_ret pe_bl)) pss_nil)
      (pss_cons (ps_if (pt_not (pt_val (pe_callB (cr_all (by rfl)) (by rfl) B.all (by decide +kernel) (pa_cons (pe_lc (own := [("place", 3)]) (g := gName 3) (tt := tYes) (by rfl) sc_fold_good.nd (pi_tupK (K := K) rfl (pv 2)) (blkOk_by (N := N_fold_good) (sc := defScope x_fold_good) (own := [("place", 3)]) (by decide +kernel)) (fun _ _ _ _ _ => (pg_name (i := 3) sc_fold_good.nd rfl (Or.inl rfl))) (fun _ _ _ _ _ => pts_nil) (fun _ _ _ _ _ => (pe_and (pe_cal C_is_whole hr (by decide) (by rfl) (pa_cons (pv 3) pa_nil)) (pe_one (pe_chain op_le op_lt pe_int (pv 3) (pe_ix (ix_tupK (K := K) rfl) (pv 1) pe_int (fun _ _ => rfl))))))) pa_nil)))) (pss_one (ps_ret pe_bl)) pss_nil)
      (pss_cons (ps_asg (pe_tup (pa_cons (pe_cal C_nears_of hr (by decide) (by rfl) (pa_cons (pv 0) pa_nil)) (pa_cons (pe_cal C_nears_of hr (by decide) (by rfl) (pa_cons (pv 1) pa_nil)) pa_nil))) (pg_tupK (K := K) rfl (pg_tup rfl (pgs_cons (pg_name (i := 4) sc_fold_good.nd rfl (Or.inr rfl)) (pgs_cons (pg_name (i := 5) sc_fold_good.nd rfl (Or.inr rfl)) pgs_nil)))))
      (pss_one (ps_ret (pe_callB (cr_all (by rfl)) (by rfl) B.all (by decide +kernel) (pa_cons (pe_lc (own := [("place", 3)]) (g := gName 3) (tt := tYes) (by rfl) sc_fold_good.nd (pi_range1 (by rfl) B.range (pa_cons (pe_ix (ix_tupK (K := K) rfl) (pv 0) pe_int (fun _ _ => rfl)) pa_nil)) (blkOk_by (N := N_fold_good) (sc := defScope x_fold_good) (own := [("place", 3)]) (by decide +kernel)) (fun _ _ _ _ _ => (pg_name (i := 3) sc_fold_good.nd rfl (Or.inl rfl))) (fun _ _ _ _ _ => pts_nil) (fun _ _ _ _ _ => (pe_cal C_place_goes hr (by decide) (by rfl) (pa_cons (pv 4) (pa_cons (pv 5) (pa_cons (pv 2) (pa_cons (pv 3) pa_nil))))))) pa_nil))))))), ?_⟩
    obtain ⟨a, t, rfl, ha, _⟩ := id hw
    obtain ⟨a2, t2, rfl, ha2, _⟩ := id hw2
    refine ⟨_, rfl, _, _, .type "tuple", .type "tuple", true, rfl, .ty "tuple", .base (.tup hrt), kit_ty (by decide +kernel), true, rfl, iteF ?_⟩
    refine ⟨_, rfl, rt, _, rfl, .inr (SqT.of hrt), _, rfl, a, _, 0, _, rfl, rfl, SqT.of ha, rfl, rfl, _, rfl, ?_⟩
    have el : V.int (((r.map vi).length : Nat) : Int) = vi n := by rw [List.length_map, hF.len]
    rw [el, decide_eq_true rfl]
    refine iteF ?_
    refine ⟨_, rfl, rt, rfl, ⟨_, SqT.of hrt⟩, fun D hD => ?_⟩
    refine lc_all hD r (r.map vi) (by rw [List.length_map]) (fun j y _ => y = V.bl true) (fun _ _ _ _ _ h => h) (walk_tup (K := K)) (fun H2 e => Evl.ex_t e (SqT.of hrt)) (by rw [List.length_map, hF.len]; omega) (fun j x s H2 Qn hx hs hy e k => ?_) fun H2 zs e hd hz => ?_
    · rw [List.getElem?_map, hx] at hs
      have es : vi x = s := Option.some.inj hs
      subst es
      have xlt := hF.lt x (List.mem_of_getElem? hx)
      refine ⟨rfl, _, rfl, (x : Int), rfl, true, rfl, iteT ?_⟩
      refine ⟨_, rfl, 0, (x : Int), rfl, rfl, decide ((0 : Int) ≤ (x : Int)), rfl, ?_⟩
      rw [decide_eq_true (show (0 : Int) ≤ (x : Int) by omega)]
      refine iteT ⟨_, rfl, a2, _, 0, _, rfl, rfl, SqT.of (e _ _ ha2), rfl, (x : Int), (m : Int), rfl, rfl, k _ _ (Evl.Ex.refl _) ?_⟩
      show V.bl (decide ((x : Int) < (m : Int))) = V.bl true
      rw [decide_eq_true (show (x : Int) < (m : Int) by omega)]
    · have ez := rel_map hz
      rw [map_true] at ez
      subst ez
      refine ⟨D, _, rfl, SqL.of hd, ?_⟩
      rw [all_true]
      refine ⟨true, rfl, iteF ?_⟩
      refine ⟨_, rfl, .ref a, n, E, rfl, hw.mono (Ex.t e), hg, h16, fun u1 H3 e3 hu1 => ?_⟩
      refine ⟨_, rfl, .ref a2, m, F, rfl, (hw2.mono (Ex.t e)).mono (Ex.t e3), hg2, h162, fun u2 H4 e4 hu2 => ?_⟩
      refine ⟨by show 2 ≤ sizeLine; decide, fun p hp => ?_⟩
      obtain ⟨e5, h5⟩ := new2 hp (.tup [u1, u2])
      refine ⟨p, _, rfl, SqT.of h5, rfl, u1, [u2], rfl, u2, [], rfl, rfl, ?_⟩
      have ea := ((e.trans e3).trans e4).trans e5
      refine ⟨_, rfl, a, _, 0, _, rfl, rfl, SqT.of (ea _ _ ha), rfl, (n : Int), rfl, by omega, by omega, fun D2 hD2 => ?_⟩
      refine lc_all hD2 (List.range n) ((List.range n).map vi) (by rw [List.length_map]) (fun j y _ => y = V.bl true) (fun _ _ _ _ _ h => h) (walk_rangeN n) (fun _ _ => trivial) (by rw [List.length_map, List.length_range]; omega) (fun j x s H6 Qn hx hs hy e6 k => ?_) fun H6 zs e6 hd6 hz6 => ?_
      · obtain ⟨rfl, lj⟩ := rangeV_get hs
        obtain ⟨rfl, _⟩ := range_get hx
        refine ⟨rfl, _, rfl, _, rfl, _, rfl, _, rfl, u1, u2, .ref rt, n, E, m, F, r, x, rfl, h16, h162, hu1.mono ((e4.trans e5).trans e6), hu2.mono (e5.trans e6), ⟨rt, rfl, e6 _ _ (ea _ _ hrt)⟩, hF, lj, fun b H7 e7 hb => k _ _ e7 hb⟩
      · have ez6 := rel_map hz6
        rw [map_true] at ez6
        subst ez6
        refine ⟨D2, _, rfl, SqL.of hd6, ?_⟩
        rw [all_true]
        exact q _ _ (ea.trans e6) rfl
end
end Nsr
end
section
set_option Elab.async false
set_option linter.all false
set_option maxRecDepth 100000
set_option maxHeartbeats 4000000
set_option autoImplicit false
namespace Nsr
open PySem PySem.Spec PyProof.Rows L2
def sp_may_go : Sp := fun vs H Q _ => ∃ (nv ov bv : V) (n : Nat) (E : Es) (m : Nat) (F : Es) (b : List Nat), vs = [nv, ov, bv] ∧ Good n E ∧ n ≤ 16 ∧ m ≤ 16 ∧ IsLL H ((List.range n).map (nb n E)) nv ∧ IsLL H ((List.range m).map (nb m F)) ov ∧ IsT H b bv ∧
  0 < b.length ∧ b.length ≤ n ∧ (∀ x ∈ b, x < m) ∧ Ret (fun u _ => u = .bl (mayGo (nb n E) (nb m F) b)) H Q
theorem inV_vi (a : Nat) (l : List Nat) : inV (vi a) (l.map vi) = decide (a ∈ l) := by
  unfold inV
  induction l with
  | nil => rfl
  | cons x l ih =>
    rw [List.map_cons, List.any_cons, ih]
    show ((x : Int) == (a : Int) || decide (a ∈ l)) = decide (a ∈ x :: l)
    by_cases c : x = a
    · subst c
      simp
    · have c2 : ¬ (x : Int) = (a : Int) := by omega
      have c3 : ¬ a = x := fun z => c z.symm
      simp [c2, c3]
theorem flat_vi (l : List Nat) : (l.map vi).all flatV = true := by
  induction l with
  | nil => rfl
  | cons x l ih =>
    rw [List.map_cons, List.all_cons, ih]
    rfl
theorem distinct_key (ns : List Int) : ∀ i, i ≤ ns.length → (firstMet (fun i => ns.getD i 0) i).length = i → firstMet (fun i => ns.getD i 0) i = ns.take i ∧ (ns.take i).Nodup
  | 0, _, _ => ⟨rfl, List.nodup_nil⟩
  | i + 1, hi, h => by
    rw [firstMet_succ] at h ⊢
    have le := firstMet_length_le (fun i => ns.getD i 0) i
    unfold step_dedup at h ⊢
    split at h
    · omega
    · rename_i no
      rw [if_neg no]
      rw [List.length_append, List.length_singleton] at h
      obtain ⟨a, b⟩ := distinct_key ns i (by omega) (by omega)
      have gi : ns[i]? = some (ns.getD i 0) := by
        rw [List.getD_eq_getElem?_getD, List.getElem?_eq_getElem (by omega)]
        rfl
      have tk : ns.take (i + 1) = ns.take i ++ [ns.getD i 0] := by
        rw [List.take_add_one, gi]
        rfl
      rw [tk, a]
      refine ⟨rfl, ?_⟩
      rw [List.nodup_append]
      refine ⟨b, by simp, fun x hx y hy e => no ?_⟩
      have ey : y = ns.getD i 0 := by simpa using hy
      rw [a, List.any_eq_true]
      exact ⟨x, hx, by rw [e, ey]; simp⟩
theorem distinct_nodup {ns : List Int} (h : ns.Nodup) : distinct ns = ns.length := by
  unfold distinct
  rw [firstMet_nodup ns h ns.length (Nat.le_refl _), List.take_length]
theorem distinct_lt (l : List Nat) : decide (((distinct (zz l) : Nat) : Int) < ((l.length : Nat) : Int)) = !decide l.Nodup := by
  by_cases c : l.Nodup
  · have n2 : (zz l).Nodup := by
      unfold zz List.Nodup
      rw [List.pairwise_map]
      exact List.Pairwise.imp (fun {a b} ne z => ne (Int.ofNat.inj z)) c
    have e := distinct_nodup n2
    rw [zz_len] at e
    rw [decide_eq_true c, e]
    simp
  · rw [decide_eq_false c]
    have le : distinct (zz l) ≤ l.length := by
      have := firstMet_length_le (fun i => (zz l).getD i 0) (zz l).length
      rw [zz_len] at this
      unfold distinct
      rw [zz_len]
      exact this
    have ne : distinct (zz l) ≠ l.length := fun z => by
      have k := (distinct_key (zz l) (zz l).length (Nat.le_refl _) (by rw [zz_len]; unfold distinct at z; rw [zz_len] at z; exact z)).2
      rw [List.take_length] at k
      unfold zz List.Nodup at k
      rw [List.pairwise_map] at k
      exact c (List.Pairwise.imp (fun {a b} ne z => ne (by rw [z])) k)
    exact decide_eq_true (by omega)
theorem all_take {p : Nat → Bool} {l : List Nat} {i x : Nat} (h : (l.take i).all p = true) (hx : l[i]? = some x) (hp : p x = true) : (l.take (i + 1)).all p = true := by
  rw [List.take_add_one, hx, List.all_append, h]
  simp [hp]
theorem all_not {p : Nat → Bool} {l : List Nat} {i x : Nat} (hx : l[i]? = some x) (hp : p x = false) : l.all p = false := by
  cases e : l.all p with
  | false => rfl
  | true =>
    have := List.all_eq_true.mp e x (List.mem_of_getElem? hx)
    rw [hp] at this
    cases this
theorem vi_ne (a b : Nat) : decide (vi a = vi b) = decide (a = b) := decide_eq_decide.mpr ⟨fun z => by have z2 : (a : Int) = (b : Int) := V.int.inj z; omega, fun z => by rw [z]⟩
section
variable {P : Program} {w : World} {K : PySem.W.Frag} {mg : Str → Option Value} {base : Heap}
abbrev N_may_go : List Str := ["nears", "others", "begun", "at", "place", "some", "near"]
theorem sc_may_go : FnScope N_may_go ["nears", "others", "begun"] (defScope x_may_go) := ⟨rfl, rfl, rfl, by decide +kernel, rfl, by decide +kernel, by decide +kernel⟩
theorem ok_may_go (D : DefAt K mg "may_go" x_may_go ["nears", "others", "begun"]) (B : Free mg) : Cal P w K mg base 1 "may_go" ["nears", "others", "begun"] sp_may_go := by
  refine D.ok sc_may_go (fun vs H Q E h => ?_) (fun f cdv A outer s H vs Q E hr h => ?_)
  · obtain ⟨nv, ov, bv, n, E, m, F, b, rfl, _⟩ := h
    rfl
  · obtain ⟨nv, ov, bv, n, E, m, F, b, rfl, hg, h16, hm, hnv, hov, ⟨bt, rfl, hbt⟩, h0, hbn, hlt, q⟩ := h
    refine ⟨_, (pss_cons (ps_set (i := 3) sc_may_go.nd rfl (Or.inr rfl) (pe_op op_sub (pe_callB (len_seqK (K := K) rfl) (by rfl) B.len (by decide +kernel) (pa_cons (pv 2) pa_nil)) pe_int))
      (pss_cons (ps_if (pt_cmpR op_ne (pe_callB (len_seqK (K := K) rfl) (by rfl) B.len (by decide +kernel) (pa_cons (pe_ix (ix_listK (K := K) rfl) (pv 0) (pv 3) (fun _ _ => rfl)) pa_nil)) (pe_callB (len_seqK (K := K) rfl) (by rfl) B.len (by decide +kernel) (pa_cons (pe_ix (ix_listK (K := K) rfl) (pv 1) (pe_ix (ix_tupK (K := K) rfl) (pv 2) (pv 3) (fun _ _ => rfl)) (fun _ _ => rfl)) pa_nil)) (nomark _)) (pss_one (ps_ret pe_bl)) pss_nil)
      (pss_cons (ps_for PassesOwn.never rfl (pi_listK (K := K) rfl (pe_ix (ix_listK (K := K) rfl) (pv 0) (pv 3) (fun _ _ => rfl))) (pg_name (i := 4) sc_may_go.nd rfl (Or.inl rfl)) (pss_one (ps_if (PW.pt (pw_and (pt_cmpR op_lt (pv 4) (pv 3) (nomark _)) (pw_and1 (pt_cmpR op_notIn_seq (pe_ix (ix_tupK (K := K) rfl) (pv 2) (pv 4) (fun _ _ => rfl)) (pe_ix (ix_listK (K := K) rfl) (pv 1) (pe_ix (ix_tupK (K := K) rfl) (pv 2) (pv 3) (fun _ _ => rfl)) (fun _ _ => rfl)) rfl)))) (pss_one (ps_ret pe_bl)) pss_nil)))
      (pss_cons (ps_for PassesOwn.never rfl (pi_listK (K := K) rfl (pe_op op_cat (pe_ix (ix_listK (K := K) rfl) (pv 0) (pv 3) (fun _ _ => rfl)) (pe_lst (pa_cons (pv 3) pa_nil)))) (pg_name (i := 4) sc_may_go.nd rfl (Or.inl rfl)) (pss_cons (ps_setLc (i := 5) (own := [("near", 6)]) (g := gName 6) (by rfl) sc_may_go.nd rfl rfl (sw_true rfl rfl rfl (by decide +kernel)) (pi_listK (K := K) rfl (pe_ix (ix_listK (K := K) rfl) (pv 0) (pv 4) (fun _ _ => rfl))) (blkOk_by (N := N_may_go) (sc := defScope x_may_go) (own := [("near", 6)]) (by decide +kernel)) (fun _ _ _ _ _ => (pg_name (i := 6) sc_may_go.nd rfl (Or.inl rfl))) (fun _ _ _ _ _ => (pts_one (pt_cmpR op_le (pv 6) (pv 3) (nomark _)))) (fun _ _ _ _ _ => (pe_ix (ix_tupK (K := K) rfl) (pv 2) (pv 6) (fun _ _ => rfl))))
      (pss_one (ps_if (pt_cmpR op_lt (pe_lenSetG (by rfl) (by rfl) B.len (by rfl) B.set (pv 5)) (pe_callB (len_seqK (K := K) rfl) (by rfl) B.len (by decide +kernel) (pa_cons (pv 5) pa_nil)) (nomark _)) (pss_one (ps_ret pe_bl)) pss_nil))))
      (pss_one (ps_ret pe_bl)))))), ?_⟩
    -- the last place
    have hk : b.length - 1 < n := by omega
    have bget : ∀ x, x ≤ b.length - 1 → (b.map vi)[x]? = some (vi (at0 b x)) := fun x hx => by
      rw [List.getElem?_map, at0_some (by omega)]
      rfl
    have blt : ∀ x, x ≤ b.length - 1 → at0 b x < m := fun x hx => hlt _ (at0_mem (by omega))
    obtain ⟨pl, vs, c1, rfl, hl, hv, hc1⟩ := LL_get hnv hk
    obtain ⟨pl2, vs2, c2, rfl, hl2, hv2, hc2⟩ := LL_get hov (blt _ (Nat.le_refl _))
    -- at = len(begun) - 1
    refine ⟨_, rfl, bt, _, rfl, .inr (SqT.of hbt), ((b.map vi).length : Int), 1, rfl, rfl, ?_⟩
    have eat : V.int (((b.map vi).length : Int) - 1) = vi (b.length - 1) := by
      rw [List.length_map]
      show V.int _ = V.int _
      congr 1
      omega
    dsimp only
    rw [eat]
    -- if len(nears[at]) != len(others[begun[at]])
    refine ⟨_, rfl, _, rfl, pl, vs, ((b.length - 1 : Nat) : Int), _, rfl, rfl, SqL.of hl, at_nat hv, c1, _, rfl, .inl (SqL.of hc1), ?_⟩
    refine ⟨_, rfl, _, rfl, _, rfl, bt, _, ((b.length - 1 : Nat) : Int), _, rfl, rfl, SqT.of hbt, at_nat (bget _ (Nat.le_refl _)), pl2, vs2, ((at0 b (b.length - 1) : Nat) : Int), _, rfl, rfl, SqL.of hl2, at_nat hv2, c2, _, rfl, .inl (SqL.of hc2), rfl, _, rfl, ?_⟩
    have eA : decide (V.int ((((nb n E (b.length - 1)).map vi).length : Nat) : Int) = V.int ((((nb m F (at0 b (b.length - 1))).map vi).length : Nat) : Int)) = mayA (nb n E) (nb m F) b := by
      rw [List.length_map, List.length_map]
      unfold mayA
      exact vi_ne _ _
    rw [eA]
    cases hA : mayA (nb n E) (nb m F) b with
    | false =>
      refine iteT (q _ _ (Evl.Ex.refl _) ?_)
      unfold mayGo
      rw [hA]
      rfl
    | true =>
    refine iteF ?_
    -- for place in nears[at]
    refine ⟨_, rfl, _, rfl, pl, vs, ((b.length - 1 : Nat) : Int), _, rfl, rfl, SqL.of hl, at_nat hv, c1, rfl, ⟨_, SqL.of hc1⟩, ?_⟩
    refine for_list (K := K) (a := c1) (xs := (nb n E (b.length - 1)).map vi) (fun i σ' H' => ∃ y4 y5 y6, σ' = [some (.ref pl), some (.ref pl2), some (.ref bt), some (vi (b.length - 1)), y4, y5, y6] ∧ Ex H H' ∧ ((nb n E (b.length - 1)).take i).all (mayB (nb n E) (nb m F) b) = true)
      ⟨_, _, _, rfl, Evl.Ex.refl _, rfl⟩ (fun i σ' H' _ ⟨_, _, _, _, e, _⟩ => SqL.of (e _ _ hc1)) (fun i x σ' H' hx ⟨y4, y5, y6, es, e, hB⟩ => ?_) (fun σ' H' ⟨y4, y5, y6, es, e, hB⟩ => ?_)
    · subst es
      rw [List.getElem?_map] at hx
      obtain ⟨p, hp, ep⟩ := Option.map_eq_some_iff.mp hx
      subst ep
      have plt := (mem_nb.mp (List.mem_of_getElem? hp)).1
      -- place < at and begun[place] not in others[begun[at]]
      refine ⟨_, rfl, _, rfl, (p : Int), ((b.length - 1 : Nat) : Int), rfl, rfl, _, rfl, ?_⟩
      by_cases c : p < b.length - 1
      · rw [decide_eq_true (show (p : Int) < ((b.length - 1 : Nat) : Int) by omega)]
        refine iteT ?_
        refine ⟨_, rfl, _, rfl, bt, _, (p : Int), _, rfl, rfl, SqT.of (e _ _ hbt), at_nat (bget p (by omega)), ?_⟩
        refine ⟨_, rfl, _, rfl, _, rfl, bt, _, ((b.length - 1 : Nat) : Int), _, rfl, rfl, SqT.of (e _ _ hbt), at_nat (bget _ (Nat.le_refl _)), pl2, vs2, ((at0 b (b.length - 1) : Nat) : Int), _, rfl, rfl, SqL.of (e _ _ hl2), at_nat hv2, c2, _, rfl, .inl (SqL.of (e _ _ hc2)), rfl, flat_vi _, _, rfl, ?_⟩
        rw [inV_vi]
        by_cases d : at0 b p ∈ nb m F (at0 b (b.length - 1))
        · rw [decide_eq_true d]
          refine iteF ⟨_, _, _, rfl, e, all_take hB hp ?_⟩
          unfold mayB
          rw [decide_eq_true c, decide_eq_true d]
          rfl
        · rw [decide_eq_false d]
          refine iteT (q _ _ e ?_)
          unfold mayGo
          rw [hA, all_not (p := mayB (nb n E) (nb m F) b) hp (by unfold mayB; rw [decide_eq_true c, decide_eq_false d]; rfl)]
          rfl
      · rw [decide_eq_false (show ¬ (p : Int) < ((b.length - 1 : Nat) : Int) by omega)]
        refine iteF (iteF ⟨_, _, _, rfl, e, all_take hB hp ?_⟩)
        unfold mayB
        rw [decide_eq_false c]
        rfl
    · subst es
      rw [List.length_map, List.take_length] at hB
      -- for place in nears[at] + [at]
      refine ⟨_, rfl, _, rfl, pl, vs, ((b.length - 1 : Nat) : Int), _, rfl, rfl, SqL.of (e _ _ hl), at_nat hv, _, rfl, by show 1 ≤ sizeLine; decide, fun l1 hl1 => ?_⟩
      obtain ⟨e2, h2⟩ := new2 hl1 (.lst [vi (b.length - 1)])
      refine ⟨c1, l1, _, _, rfl, rfl, e2 _ _ (e _ _ hc1), h2, ?_, fun l2 hl2' => ?_⟩
      · rw [List.length_map]
        have := nb_len n E (b.length - 1)
        exact Nat.le_of_lt (small1000 (by show _ + 1 ≤ 1000; omega))
      have ec : (nb n E (b.length - 1)).map vi ++ [vi (b.length - 1)] = (nb n E (b.length - 1) ++ [b.length - 1]).map vi := by
        rw [List.map_append]
        rfl
      rw [ec]
      obtain ⟨e3, h3⟩ := new2 hl2' (.lst ((nb n E (b.length - 1) ++ [b.length - 1]).map vi))
      refine ⟨l2, rfl, ⟨_, SqL.of h3⟩, ?_⟩
      have e23 := (e.trans e2).trans e3
      refine for_list (K := K) (a := l2) (xs := (nb n E (b.length - 1) ++ [b.length - 1]).map vi) (fun i σ' H' => ∃ y4 y5 y6, σ' = [some (.ref pl), some (.ref pl2), some (.ref bt), some (vi (b.length - 1)), y4, y5, y6] ∧ Ex H H' ∧ H' l2 = some (.lst ((nb n E (b.length - 1) ++ [b.length - 1]).map vi)) ∧ ((nb n E (b.length - 1) ++ [b.length - 1]).take i).all (mayC (nb n E) b) = true)
        ⟨_, _, _, rfl, e23, h3, rfl⟩ (fun i σ' H' _ ⟨_, _, _, _, _, h, _⟩ => SqL.of h) (fun i x σ' H' hx ⟨y4, y5, y6, es, e4, h4, hC⟩ => ?_) (fun σ' H' ⟨y4, y5, y6, es, e4, h4, hC⟩ => ?_)
      · subst es
        rw [List.getElem?_map] at hx
        obtain ⟨p, hp, ep⟩ := Option.map_eq_some_iff.mp hx
        subst ep
        have plt : p < n := by
          rcases List.mem_append.mp (List.mem_of_getElem? hp) with z | z
          · exact (mem_nb.mp z).1
          · have : p = b.length - 1 := by simpa using z
            omega
        obtain ⟨_, _, c3, e1, hl3, hv3, hc3⟩ := LL_get hnv plt
        cases e1
        have ev : vs = _ := HO.lst.inj (Option.some.inj (hl.symm.trans hl3))
        subst ev
        -- some
        refine ⟨_, rfl, _, rfl, pl, vs, (p : Int), _, rfl, rfl, SqL.of (e4 _ _ hl), at_nat hv3, c3, rfl, ⟨_, SqL.of (e4 _ _ hc3)⟩, fun D hD => ?_⟩
        refine lc_rel hD (nb n E p) ((nb n E p).map vi) (by rw [List.length_map]) (fun x => decide (x ≤ b.length - 1)) (fun x y _ => y = vi (at0 b x)) (fun _ _ _ _ _ h => h) (walk_list (K := K)) (fun H2 e5 => Evl.ex_l e5 (SqL.of (e4 _ _ hc3))) (by rw [List.length_map]; have := nb_len n E p; omega) (fun j x s H5 Qn Qs hx hs hy e5 k1 k2 => ?_) fun H5 zs e5 hd hz => ?_
        · rw [List.getElem?_map, hx] at hs
          have es : vi x = s := Option.some.inj hs
          subst es
          refine ⟨rfl, _, rfl, _, rfl, (x : Int), ((b.length - 1 : Nat) : Int), rfl, rfl, _, rfl, ?_⟩
          by_cases c : x ≤ b.length - 1
          · rw [decide_eq_true (show (x : Int) ≤ ((b.length - 1 : Nat) : Int) by omega)]
            refine iteT ⟨_, rfl, _, rfl, bt, _, (x : Int), _, rfl, rfl, SqT.of (e5 _ _ (e4 _ _ hbt)), at_nat (bget x c), k1 (decide_eq_true c) _ _ (Evl.Ex.refl _) rfl⟩
          · rw [decide_eq_false (show ¬ (x : Int) ≤ ((b.length - 1 : Nat) : Int) by omega)]
            exact iteF (k2 (decide_eq_false c) _ (Evl.Ex.refl _))
        · have ez := rel_map hz
          have ez2 : ((nb n E p).filter fun x => decide (x ≤ b.length - 1)).map (fun x => vi (at0 b x)) = (zz (somes (nb n E) b p)).map V.int := by
            rw [zz_vi]
            unfold somes
            rw [List.map_map]
            rfl
          rw [ez2] at ez
          subst ez
          have sl : (somes (nb n E) b p).length ≤ 16 := by
            unfold somes
            rw [List.length_map]
            have := nb_len n E p
            have := List.length_filter_le (fun q => decide (q ≤ b.length - 1)) (nb n E p)
            omega
          refine ⟨_, rfl, D, zz (somes (nb n E) b p), rfl, SqL.of hd, by rw [zz_len]; omega, _, rfl, D, _, rfl, .inl (SqL.of hd), ((distinct (zz (somes (nb n E) b p)) : Nat) : Int), ((((zz (somes (nb n E) b p)).map V.int).length : Nat) : Int), rfl, rfl, _, rfl, ?_⟩
          have el : ((zz (somes (nb n E) b p)).map V.int).length = (somes (nb n E) b p).length := by rw [List.length_map, zz_len]
          rw [el, distinct_lt]
          have eC : decide (somes (nb n E) b p).Nodup = mayC (nb n E) b p := rfl
          rw [eC]
          cases z : mayC (nb n E) b p with
          | true => exact iteF ⟨_, _, _, rfl, e4.trans e5, e5 _ _ h4, all_take hC hp z⟩
          | false =>
            refine iteT (q _ _ (e4.trans e5) ?_)
            unfold mayGo
            rw [hA, hB, all_not (p := mayC (nb n E) b) hp z]
            rfl
      · subst es
        rw [List.length_map, List.take_length] at hC
        refine q _ _ e4 ?_
        unfold mayGo
        rw [hA, hB, hC]
        rfl
end
end Nsr
end
section
set_option Elab.async false
set_option linter.all false
set_option maxRecDepth 100000
set_option maxHeartbeats 4000000
set_option autoImplicit false
namespace Nsr
open PySem PySem.Spec PyProof.Rows L2
def FoldAns (o : Option (List Nat)) (u : V) (H : Hp) : Prop := (∃ r, o = some r ∧ IsT H r u) ∨ (o = none ∧ u = .non)
def sp_fold_from (k : Nat) : Sp := fun vs H Q _ => ∃ (v nv ov bv : V) (n : Nat) (E : Es) (m : Nat) (F : Es) (b : List Nat), vs = [v, nv, ov, bv] ∧ IsW H v n E ∧ Good n E ∧ n ≤ 16 ∧ m ≤ 16 ∧ IsLL H ((List.range n).map (nb n E)) nv ∧ IsLL H ((List.range m).map (nb m F)) ov ∧ IsT H b bv ∧
  b.length + k = n ∧ (∀ x ∈ b, x < m) ∧ Ret (fun u H' => FoldAns (ff m (nb n E) (nb m F) k b) u H') H Q
def sp_fold_fromA : Sp := fun vs H Q E => ∃ k, k ≤ 12 ∧ sp_fold_from k vs H Q E
def sp_first_fold : Sp := fun vs H Q _ => ∃ (v ov : V) (n : Nat) (E : Es) (m : Nat) (F : Es), vs = [v, ov] ∧ IsW H v n E ∧ Good n E ∧ n ≤ 12 ∧ IsW H ov m F ∧ Good m F ∧ m ≤ 16 ∧ Ret (fun u H' => FoldAns (firstFold n m E F) u H') H Q
theorem FoldAns.mono {o : Option (List Nat)} {u : V} {H H' : Hp} (e : ExT H H') (h : FoldAns o u H) : FoldAns o u H' := by
  rcases h with ⟨r, h1, h2⟩ | h
  · exact .inl ⟨r, h1, h2.mono e⟩
  · exact .inr h
theorem catA {K : PySem.W.Frag} {H : Hp} {Q : VK} {a c : Addr} {b : List Nat} {p : Nat} (ha : H a = some (.tup (b.map vi))) (hc : H c = some (.tup [vi p])) (hl : b.length ≤ 500) (k : ∀ v H', Ex H H' → IsT H' (b ++ [p]) v → Q v H') : rCatA K (.ref a) (.ref c) H Q := by
  have eb : (b ++ [p]).map vi = b.map vi ++ [vi p] := by
    rw [List.map_append]
    rfl
  refine ⟨a, c, b.map vi, [vi p], rfl, rfl, SqT.of ha, SqT.of hc, ?_, fun h => ?_, fun _ h => (nomatch h), fun _ _ q hq => ?_⟩
  · rw [List.length_map]
    exact Nat.le_of_lt (small1000 (by show _ + 1 ≤ 1000; omega))
  · refine k _ _ (Evl.Ex.refl _) ⟨c, rfl, ?_⟩
    rw [eb, h]
    exact hc
  · obtain ⟨e, h⟩ := new2 hq (.tup (b.map vi ++ [vi p]))
    exact k _ _ e ⟨q, rfl, by rw [eb]; exact h⟩
theorem ff_hit {m k i : Nat} {N M : Nat → List Nat} {b r : List Nat} (hi : i < m) (h0 : ∀ j, j < i → (if mayGo N M (b ++ [j]) = true then ff m N M k (b ++ [j]) else none) = none) (h1 : mayGo N M (b ++ [i]) = true) (h2 : ff m N M k (b ++ [i]) = some r) : ff m N M (k + 1) b = some r := by
  rw [ff_succ, List.findSome?_eq_some_iff]
  refine ⟨List.range i, i, (List.range m).drop (i + 1), ?_, by rw [if_pos h1]; exact h2, fun x hx => h0 x (List.mem_range.mp hx)⟩
  have t : (List.range m).take i = List.range i := by rw [List.take_range, Nat.min_eq_left (by omega)]
  have d : (List.range m).drop i = i :: (List.range m).drop (i + 1) := by
    have hl : i < (List.range m).length := by rw [List.length_range]; exact hi
    rw [List.drop_eq_getElem_cons hl, List.getElem_range]
  rw [← t, ← d, List.take_append_drop]
theorem ff_miss {m k : Nat} {N M : Nat → List Nat} {b : List Nat} (h0 : ∀ j, j < m → (if mayGo N M (b ++ [j]) = true then ff m N M k (b ++ [j]) else none) = none) : ff m N M (k + 1) b = none := by
  rw [ff_succ, List.findSome?_eq_none_iff]
  exact fun x hx => h0 x (List.mem_range.mp hx)
section
variable {P : Program} {w : World} {K : PySem.W.Frag} {mg : Str → Option Value} {base : Heap}
theorem funOk {x : Str} {st : Stmt} {N ps : List Str} {k : Nat} {sp : Sp} {f : Addr} {fd : FuncData} (F : FunD K x x (defArgs st) (defBody st) (defScope st) [] [] f fd) (S : FnScope N ps (defScope st)) (len : ∀ vs H Q E, sp vs H Q E → vs.length = ps.length)
    (hbody : ∀ (cdv : Value) (A : Around) (outer : List Env) (s : Shared) (H : Hp) (vs : List V) (Q : VK) (E : XK), Room k (A.deeper (envOfC x (defScope st) s.heap.objs.size f cdv)) → sp vs H Q E →
      ∃ t, PSs (cxOf CX0 P w K mg base N x (defScope st) f cdv A outer s H E).nox (defBody st) t ∧ t { nx := fun _ H' => Q .non H', rt := Q } (start N vs) H) : FnOk P w K mg base CX0 (k + 1) f fd ps sp := by
  refine F.ok S len fun cdv A outer s H vs Q E hr h => ?_
  obtain ⟨t, h1, h2⟩ := hbody cdv A outer s H vs Q E hr h
  exact ⟨t, PSs.nox h1, h2⟩
abbrev N_fold_from : List Str := ["web", "nears", "others", "begun", "place", "found"]
theorem sc_fold_from : FnScope N_fold_from ["web", "nears", "others", "begun"] (defScope x_fold_from) := ⟨rfl, rfl, rfl, by decide +kernel, rfl, by decide +kernel, by decide +kernel⟩
theorem fold_step {f0 : Addr} {fd0 : FuncData} (F0 : FunD K "fold_from" "fold_from" (defArgs x_fold_from) (defBody x_fold_from) (defScope x_fold_from) [] [] f0 fd0) (B : Free mg) (C_may_go : Cal P w K mg base 1 "may_go" ["nears", "others", "begun"] sp_may_go) (k : Nat) (C_fold_from : Cal P w K mg base (k + 2) "fold_from" ["web", "nears", "others", "begun"] (sp_fold_from k)) :
    FnOk P w K mg base CX0 (k + 3) f0 fd0 ["web", "nears", "others", "begun"] (sp_fold_from (k + 1)) := by
  refine funOk F0 sc_fold_from (fun vs H Q E h => ?_) (fun cdv A outer s H vs Q E hr h => ?_)
  · obtain ⟨v, nv, ov, bv, n, E, m, F, b, rfl, _⟩ := h
    rfl
  · obtain ⟨v, nv, ov, bv, n, E, m, F, b, rfl, hw, hg, h16, hm, hnv, hov, hbv, hlen, hlt, q⟩ := h
    obtain ⟨bt, rfl, hbt⟩ := id hbv
    obtain ⟨a, t, rfl, ha, _⟩ := id hw
    obtain ⟨pl2, vs2, rfl, hl2, hvs2⟩ := id hov
    have hm2 : vs2.length = m := by
      have := rel_len hvs2
      rw [List.length_map, List.length_range] at this
      exact this.symm
    refine ⟨_, (pss_cons (ps_if (pt_cmpR op_eq (pe_callB (len_seqK (K := K) rfl) (by rfl) B.len (by decide +kernel) (pa_cons (pv 3) pa_nil)) (pe_ix (ix_tupK (K := K) rfl) (pv 0) pe_int (fun _ _ => rfl)) (nomark _)) (pss_one (ps_ret (pv 3))) pss_nil)
      (pss_cons (ps_for PassesOwn.never rfl (pi_range1 (by rfl) B.range (pa_cons (pe_callB (len_seqK (K := K) rfl) (by rfl) B.len (by decide +kernel) (pa_cons (pv 2) pa_nil)) pa_nil)) (pg_name (i := 4) sc_fold_from.nd rfl (Or.inl rfl)) (pss_one (ps_if (pt_val (pe_cal C_may_go hr (by omega) (by rfl) (pa_cons (pv 1) (pa_cons (pv 2) (pa_cons (pe_op op_catA (pv 3) (pe_tup (pa_cons (pv 4) pa_nil))) pa_nil))))) (pss_cons (ps_set (i := 5) sc_fold_from.nd rfl (Or.inl rfl) (pe_cal C_fold_from hr (Nat.le_refl _) (by rfl) (pa_cons (pv 0) (pa_cons (pv 1) (pa_cons (pv 2) (pa_cons (pe_op op_catA (pv 3) (pe_tup (pa_cons (pv 4) pa_nil))) pa_nil))))))
      (pss_one (ps_if (pt_cmpR op_notN (pv 5) pe_non (nomark _)) (pss_one (ps_ret (pv 5))) pss_nil))) pss_nil)))
      (pss_one (ps_ret pe_non)))), ?_⟩
    refine ⟨_, rfl, bt, _, rfl, .inr (SqT.of hbt), _, rfl, a, _, 0, _, rfl, rfl, SqT.of ha, rfl, rfl, _, rfl, ?_⟩
    have el : V.int (((b.map vi).length : Nat) : Int) = vi b.length := by rw [List.length_map]
    rw [el, vi_ne, decide_eq_false (show ¬ b.length = n by omega)]
    refine iteF ?_
    -- for place in range(len(others))
    refine ⟨_, rfl, pl2, _, rfl, .inl (SqL.of hl2), ((vs2.length : Nat) : Int), rfl, by omega, by omega, ?_⟩
    refine for_range (lo := 0) (n := ((vs2.length : Nat) : Int).toNat) (fun i σ' H' => ∃ y4 y5, σ' = [some (.ref a), some nv, some (.ref pl2), some (.ref bt), y4, y5] ∧ Ex H H' ∧ ∀ j, j < i → (if mayGo (nb n E) (nb m F) (b ++ [j]) = true then ff m (nb n E) (nb m F) k (b ++ [j]) else none) = none)
      ⟨_, _, rfl, Evl.Ex.refl _, fun j hj => absurd hj (Nat.not_lt_zero j)⟩ (fun i σ' H' hi ⟨y4, y5, es, e, hno⟩ => ?_) (fun σ' H' ⟨y4, y5, es, e, hno⟩ => ?_)
    · subst es
      have hi' : i < m := by
        rw [Int.toNat_natCast, hm2] at hi
        exact hi
      have e0 : (0 : Int) + (i : Int) = (i : Int) := Int.zero_add _
      rw [e0]
      have hlt2 : ∀ x ∈ b ++ [i], x < m := fun x hx => by
        rcases List.mem_append.mp hx with z | z
        · exact hlt x z
        · have : x = i := by simpa using z
          omega
      have hl2' : (b ++ [i]).length = b.length + 1 := by rw [List.length_append]; rfl
      -- may_go(nears, others, begun + (place,))
      refine ⟨_, rfl, _, rfl, _, rfl, _, rfl, by show 1 ≤ sizeLine; decide, fun c hc => ?_⟩
      obtain ⟨e1, h1⟩ := new2 hc (.tup [vi i])
      refine catA (e1 _ _ (e _ _ hbt)) h1 (by omega) fun bv2 H2 e2 hb2 => ?_
      have ee := e.trans (e1.trans e2)
      refine ⟨nv, .ref pl2, bv2, n, E, m, F, b ++ [i], rfl, hg, h16, hm, hnv.mono ee, hov.mono ee, hb2, by omega, by omega, hlt2, fun g H3 e3 hg3 => ?_⟩
      subst hg3
      refine ⟨_, rfl, ?_⟩
      cases z : mayGo (nb n E) (nb m F) (b ++ [i]) with
      | false =>
        refine iteF ⟨_, _, rfl, ee.trans e3, fun j hj => ?_⟩
        by_cases c : j = i
        · rw [c, z]
          rfl
        · exact hno j (by omega)
      | true =>
        refine iteT ?_
        refine ⟨_, rfl, _, rfl, _, rfl, _, rfl, _, rfl, by show 1 ≤ sizeLine; decide, fun c2 hc2 => ?_⟩
        obtain ⟨e4, h4⟩ := new2 hc2 (.tup [vi i])
        have ee3 := ee.trans e3
        refine catA (e4 _ _ (ee3 _ _ hbt)) h4 (by omega) fun bv3 H5 e5 hb5 => ?_
        have ee5 := ee3.trans (e4.trans e5)
        refine ⟨.ref a, nv, .ref pl2, bv3, n, E, m, F, b ++ [i], rfl, hw.mono (Ex.t ee5), hg, h16, hm, hnv.mono ee5, hov.mono ee5, hb5, by omega, hlt2, fun u H6 e6 hu => ?_⟩
        have ee6 := ee5.trans e6
        -- if found is not None
        refine ⟨_, rfl, rfl, _, rfl, ?_⟩
        rcases hu with ⟨r, hr2, hT⟩ | ⟨hn2, rfl⟩
        · have hT2 := hT
          obtain ⟨rt, rfl, hrt⟩ := hT2
          refine iteT ⟨_, rfl, q _ _ ee6 (.inl ⟨r, ff_hit hi' hno z hr2, hT⟩)⟩
        · refine iteF ⟨_, _, rfl, ee6, fun j hj => ?_⟩
          by_cases c : j = i
          · rw [c, z]
            exact hn2
          · exact hno j (by omega)
    · subst es
      rw [Int.toNat_natCast, hm2] at hno
      exact q _ _ e (.inr ⟨ff_miss hno, rfl⟩)
theorem fold_last {f0 : Addr} {fd0 : FuncData} (F0 : FunD K "fold_from" "fold_from" (defArgs x_fold_from) (defBody x_fold_from) (defScope x_fold_from) [] [] f0 fd0) (B : Free mg) : FnOk P w K mg base CX0 2 f0 fd0 ["web", "nears", "others", "begun"] (sp_fold_from 0) := by
  refine funOk F0 sc_fold_from (fun vs H Q E h => ?_) (fun cdv A outer s H vs Q E hr h => ?_)
  · obtain ⟨v, nv, ov, bv, n, E, m, F, b, rfl, _⟩ := h
    rfl
  · obtain ⟨v, nv, ov, bv, n, E, m, F, b, rfl, hw, hg, h16, hm, hnv, hov, hbv, hlen, hlt, q⟩ := h
    obtain ⟨bt, rfl, hbt⟩ := id hbv
    obtain ⟨a, t, rfl, ha, _⟩ := id hw
    refine ⟨_, pss_cons (ps_if (pt_cmpR op_eq (pe_callB (len_seqK (K := K) rfl) (by rfl) B.len (by decide +kernel) (pa_cons (pv 3) pa_nil)) (pe_ix (ix_tupK (K := K) rfl) (pv 0) pe_int (fun _ _ => rfl)) (nomark _)) (pss_one (ps_ret (pv 3))) pss_nil) pss_never, ?_⟩
    refine ⟨_, rfl, bt, _, rfl, .inr (SqT.of hbt), _, rfl, a, _, 0, _, rfl, rfl, SqT.of ha, rfl, rfl, _, rfl, ?_⟩
    have el : V.int (((b.map vi).length : Nat) : Int) = vi b.length := by rw [List.length_map]
    rw [el, vi_ne, decide_eq_true (show b.length = n by omega)]
    exact iteT ⟨_, rfl, q _ _ (Evl.Ex.refl _) (.inl ⟨b, rfl, hbv⟩)⟩
theorem fold_every {f0 : Addr} {fd0 : FuncData} (F0 : FunD K "fold_from" "fold_from" (defArgs x_fold_from) (defBody x_fold_from) (defScope x_fold_from) [] [] f0 fd0) (B : Free mg) (g : mg "fold_from" = some (.ref f0)) (b : Binds K fd0 ["web", "nears", "others", "begun"] []) (C_may_go : Cal P w K mg base 1 "may_go" ["nears", "others", "begun"] sp_may_go) : ∀ k, FnOk P w K mg base CX0 (k + 2) f0 fd0 ["web", "nears", "others", "begun"] (sp_fold_from k)
  | 0 => fold_last F0 B
  | k + 1 => fold_step F0 B C_may_go k ⟨f0, fd0, fold_every F0 B g b C_may_go k, g, F0.kp, b⟩
theorem ok_fold_from (D : DefAt K mg "fold_from" x_fold_from ["web", "nears", "others", "begun"]) (B : Free mg) (C_may_go : Cal P w K mg base 1 "may_go" ["nears", "others", "begun"] sp_may_go) : Cal P w K mg base 15 "fold_from" ["web", "nears", "others", "begun"] sp_fold_fromA := by
  obtain ⟨f, fd, F, g, b⟩ := D.ex
  have h := fold_every (P := P) (w := w) (base := base) F B g b C_may_go
  exact ⟨f, fd, ⟨fun vs H Q E ⟨k, hk, q⟩ => (h k).len vs H Q E q, fun A outer s H args us vs Q E a1 a2 a3 a4 ⟨k, hk, q⟩ => (h k).run A outer s H args us vs Q E (a1.mono (by omega)) a2 a3 a4 q⟩, g, F.kp, b⟩
abbrev N_first_fold : List Str := ["web", "other"]
theorem sc_first_fold : FnScope N_first_fold ["web", "other"] (defScope x_first_fold) := ⟨rfl, rfl, rfl, by decide +kernel, rfl, by decide +kernel, by decide +kernel⟩
theorem ok_first_fold (D : DefAt K mg "first_fold" x_first_fold ["web", "other"]) (B : Free mg) (C_fold_from : Cal P w K mg base 15 "fold_from" ["web", "nears", "others", "begun"] sp_fold_fromA) (C_nears_of : Cal P w K mg base 1 "nears_of" ["web"] sp_nears_of) {tM : Tok} (hM : mg "MOST_FOLDED" = some (.int 12 tM)) : Cal P w K mg base 16 "first_fold" ["web", "other"] sp_first_fold := by
  refine D.ok sc_first_fold (fun vs H Q E h => ?_) (fun f cdv A outer s H vs Q E hr h => ?_)
  · obtain ⟨v, ov, n, E, m, F, rfl, _⟩ := h
    rfl
  · obtain ⟨v, ov, n, E, m, F, rfl, hw, hg, h12, hw2, hg2, hm, q⟩ := h
    obtain ⟨a, t, rfl, ha, _⟩ := id hw
    refine ⟨_, (pss_cons (ps_if (pt_cmpR op_gt (pe_ix (ix_tupK (K := K) rfl) (pv 0) pe_int (fun _ _ => rfl)) (pe_glob (v := .int 12) (by rfl) hM ⟨_, rfl⟩) (nomark _)) (pss_one ps_never) pss_nil)
      (pss_one (ps_ret (pe_cal C_fold_from hr (by decide) (by rfl) (pa_cons (pv 0) (pa_cons (pe_cal C_nears_of hr (by decide) (by rfl) (pa_cons (pv 0) pa_nil)) (pa_cons (pe_cal C_nears_of hr (by decide) (by rfl) (pa_cons (pv 1) pa_nil)) (pa_cons (pe_tup pa_nil) pa_nil)))))))), ?_⟩
    refine ⟨_, rfl, a, _, 0, _, rfl, rfl, SqT.of ha, rfl, (n : Int), 12, rfl, rfl, _, rfl, ?_⟩
    rw [decide_eq_false (show ¬ (12 : Int) < (n : Int) by omega)]
    refine iteF ?_
    refine ⟨_, rfl, _, rfl, .ref a, n, E, rfl, hw, hg, by omega, fun u1 H1 e1 hu1 => ?_⟩
    refine ⟨_, rfl, ov, m, F, rfl, hw2.mono (Ex.t e1), hg2, hm, fun u2 H2 e2 hu2 => ?_⟩
    refine ⟨Nat.zero_le _, fun p hp => ?_⟩
    obtain ⟨e3, h3⟩ := new2 hp (.tup [])
    have ee := e1.trans (e2.trans e3)
    exact ⟨n, h12, .ref a, u1, u2, .ref p, n, E, m, F, [], rfl, hw.mono (Ex.t ee), hg, by omega, hm, hu1.mono (e2.trans e3), hu2.mono e3, ⟨p, rfl, h3⟩, by simp, fun x hx => (nomatch hx), fun u H4 e4 hu => q u H4 (ee.trans e4) hu⟩
end
end Nsr
end
section
set_option Elab.async false
set_option linter.all false
set_option maxRecDepth 100000
set_option maxHeartbeats 4000000
set_option autoImplicit false
namespace Nsr
open PySem PySem.Spec PyProof.Rows L2
/-! ### the law's own defs -/
/-- the pen, a list of three numbers at p -/
def PenAt (H : Hp) (p : Addr) : Prop := ∃ a b c : Int, H p = some (.lst [.int a, .int b, .int c]) ∧ 0 ≤ c ∧ c < 2147483648
/-- all but p is as it was -/
def Oth (p : Addr) (H H' : Hp) : Prop := ∀ b, b ≠ p → H' b = H b
def ExP (p : Addr) (H H' : Hp) : Prop := ∀ b o, b ≠ p → H b = some o → H' b = some o
theorem ExP.refl (p : Addr) (H : Hp) : ExP p H H := fun _ _ _ h => h
theorem ExP.trans {p : Addr} {H H1 H2 : Hp} (a : ExP p H H1) (b : ExP p H1 H2) : ExP p H H2 := fun x o n h => b x o n (a x o n h)
theorem Ex.p {p : Addr} {H H' : Hp} (e : Ex H H') : ExP p H H' := fun b o _ h => e b o h
theorem Oth.p {p : Addr} {H H' : Hp} (e : Oth p H H') : ExP p H H' := fun b o n h => by rw [e b n]; exact h
theorem PenAt.ex {p : Addr} {H H' : Hp} (h : PenAt H p) (e : Ex H H') : PenAt H' p := by
  obtain ⟨a, b, c, h1, h2⟩ := h
  exact ⟨a, b, c, e _ _ h1, h2⟩
theorem ExP.t {p : Addr} {H H' : Hp} (e : ExP p H H') (h : PenAt H p) : ExT H H' := fun a xs q => by
  obtain ⟨_, _, _, h1, _⟩ := h
  exact e a _ (ne_of q h1 (by intro z; cases z)) q
theorem PenAt.not {p : Addr} {H : Hp} (h : PenAt H p) {q : Addr} (hq : H q = none) : q ≠ p := fun z => by
  obtain ⟨_, _, _, h1, _⟩ := h
  rw [z, h1] at hq
  cases hq
def sp_law_cell_at (K : PySem.W.Frag) : Sp := fun vs H Q _ => ∃ (a : Addr) (ns : List Int), vs = [.ref a, .int 0] ∧ SqL K H a (ns.map V.int) ∧ ∀ c : Int, Q (.int c) H
def sp_law_next : Sp := fun vs H Q _ => ∃ s : Int, vs = [.int s] ∧ 0 ≤ s ∧ s < 4294967296 ∧ ∀ r : Int, 0 ≤ r → r < 2147483629 → Q (.int r) H
def sp_law_pen_of : Sp := fun vs H Q _ => ∃ i : Int, vs = [.int i] ∧ ∀ p H', H p = none → Ex H H' → PenAt H' p → Q (.ref p) H'
def sp_law_draw : Sp := fun vs H Q _ => ∃ (p : Addr) (m : Nat), vs = [.ref p, vi m] ∧ PenAt H p ∧ 0 < m ∧ m < 1000 ∧ ∀ d H', d < m → Oth p H H' → PenAt H' p → Q (vi d) H'
def PairsOk (n : Nat) (ps : Es) : Prop := ∀ e ∈ ps, e.1 < n ∧ e.2 < n ∧ e.1 ≠ e.2
def sp_law_named : Sp := fun vs H Q _ => ∃ (v nv : V) (n : Nat) (ps : Es) (fl : List Nat), vs = [v, nv] ∧ IsW H v n ps ∧ PairsOk n ps ∧ n ≤ 16 ∧ ps.length < 64 ∧ IsT H fl nv ∧ Names n fl ∧ ∀ u H' R, Ex H H' → ByPairs (namePairs fl ps) R → IsW H' u n R → Q u H'
def sp_law_names_by : Sp := fun vs H Q _ => ∃ (p : Addr) (n : Nat), vs = [.ref p, vi n] ∧ PenAt H p ∧ n ≤ 16 ∧ ∀ u H' fl, ExP p H H' → PenAt H' p → Names n fl → IsT H' fl u → Q u H'
def sp_law_turned : Sp := fun vs H Q _ => ∃ (n : Nat) (sl : Addr) (ss : List Nat), vs = [vi n, .ref sl] ∧ H sl = some (.lst (ss.map vi)) ∧ 0 < n ∧ n ≤ 8 ∧ ss.length ≤ 4 ∧ (∀ s ∈ ss, 0 < s ∧ s < n) ∧ ∀ u H' ps, Ex H H' → IsW H' u n ps → PairsOk n ps → ps.length ≤ 28 → Q u H'
/-- sorted(set(xs)) of a list of pairs, the lesser ahead -/
theorem sort_set {K : PySem.W.Frag} {P : Program} {w : World} {H : Hp} {D : Addr} {zs : List V} {ps : Es} {Q : VK} (hd : H D = some (.lst zs)) (hz : Paired (IsP H) (ps.map norm) zs) (h64 : ps.length < 64) (hb : ∀ p ∈ ps, p.1 < 64 ∧ p.2 < 64)
    (k : ∀ t H' E vs, Ex H H' → ByPairs ps E → H' t = some (.lst vs) → Paired (IsP H') E vs → Q (.ref t) H') : rSetOfT K P w [.ref D] H fun x H1 => rSortedT K P w [x] H1 Q := by
  obtain ⟨ks, rfl, hk2, hk3⟩ := keys_of (es := ps.map norm) (H := H) (ys := zs) hz
  have kl : ks.length = ps.length := by
    have := congrArg List.length hk2
    simpa using this
  refine ⟨D, ks, rfl, SqL.of hd, fun p hp => SqT.of (hk3 p hp), by omega, fun s L hs hL1 hL2 => ?_⟩
  have e2 : Ex H (upd H s (SetTO P w s L)) := Evl.Ex.new hs
  refine ⟨s, L, 2, 64, rfl, upd_same, fun p hp => SqT.of (e2 _ _ (hk3 p (hL1 p hp))), by decide, fun p hp => ?_, fun L' t pm nd l64 pw ht => ?_⟩
  · have hm : p.2 ∈ (ps.map norm).map tp := by
      rw [← hk2]
      exact List.mem_map.mpr ⟨p, hL1 p hp, rfl⟩
    obtain ⟨d, hd, q2⟩ := List.mem_map.mp hm
    obtain ⟨r, hr, q3⟩ := List.mem_map.mp hd
    have b := hb r hr
    rw [← q2, ← q3]
    refine ⟨rfl, fun x hx => ?_⟩
    unfold tp norm at hx
    simp only [List.mem_cons, List.not_mem_nil, or_false] at hx
    omega
  · have e3 : Ex (upd H s (SetTO P w s L)) (upd (upd H s (SetTO P w s L)) t (.lst (L'.map fun q => V.ref q.1))) := Evl.Ex.new ht
    obtain ⟨E, h1, h2⟩ := row_of (H := upd (upd H s (SetTO P w s L)) t (.lst (L'.map fun q => V.ref q.1))) (L := L') hk2 (fun r hr => hL1 r (pm.mem_iff.mp hr)) fun r hr => e3 _ _ (e2 _ _ (hk3 r (hL1 r (pm.mem_iff.mp hr))))
    exact k t _ E _ (e2.trans e3) (byPairs_of hk2 hL1 hL2 pm nd h1) upd_same h2
theorem erase_perm {l : List Nat} {d : Nat} (h : d < l.length) : l.Perm (l[d] :: l.eraseIdx d) := by
  induction l generalizing d with
  | nil => exact absurd h (Nat.not_lt_zero d)
  | cons x l ih =>
    cases d with
    | zero => exact List.Perm.refl _
    | succ d =>
      have h' : d < l.length := Nat.lt_of_succ_lt_succ h
      exact ((ih h').cons x).trans (List.Perm.swap _ _ _)
theorem eraseIdx_map' {l : List Nat} {d : Nat} : (l.map vi).eraseIdx d = (l.eraseIdx d).map vi := by
  induction l generalizing d with
  | nil => rfl
  | cons x l ih =>
    cases d with
    | zero => rfl
    | succ d =>
      show vi x :: (l.map vi).eraseIdx d = vi x :: (l.eraseIdx d).map vi
      rw [ih]
theorem byPairs_len {n : Nat} {ps E : Es} (h : ByPairs ps E) (ok : PairsOk n ps) (h8 : n ≤ 8) : E.length ≤ 28 := Nat.le_trans (h.good ok).len (tri8 n (by omega))
theorem good_pairs {n : Nat} {E : Es} (g : Good n E) : PairsOk n E := fun e he => by
  have := g.lt e he
  exact ⟨by omega, by omega, by omega⟩
theorem ifMin (a b : Nat) : (if (b : Int) < (a : Int) then (b : Int) else (a : Int)) = ((min a b : Nat) : Int) := by
  by_cases c : (b : Int) < (a : Int)
  · rw [if_pos c]
    omega
  · rw [if_neg c]
    omega
theorem ifMax (a b : Nat) : (if (b : Int) > (a : Int) then (b : Int) else (a : Int)) = ((max a b : Nat) : Int) := by
  by_cases c : (b : Int) > (a : Int)
  · rw [if_pos c]
    omega
  · rw [if_neg c]
    omega
section
variable {P : Program} {w : World} {K : PySem.W.Frag} {mg : Str → Option Value} {base : Heap}
abbrev N_law_cell_at : List Str := ["_law_script", "_law_k"]
theorem sc_law_cell_at : FnScope N_law_cell_at ["_law_script", "_law_k"] (defScope x_law_cell_at) := ⟨rfl, rfl, rfl, by decide +kernel, rfl, by decide +kernel, by decide +kernel⟩
theorem ok_law_cell_at (D : DefAt K mg "_law_cell_at" x_law_cell_at ["_law_script", "_law_k"]) (B : Free mg) : Cal P w K mg base 1 "_law_cell_at" ["_law_script", "_law_k"] (sp_law_cell_at K) := by
  refine D.ok sc_law_cell_at (fun vs H Q E h => ?_) (fun f cdv A outer s H vs Q E hr h => ?_)
  · obtain ⟨a, ns, rfl, _⟩ := h
    rfl
  · obtain ⟨a, ns, rfl, hS, q⟩ := h
    refine ⟨_, (pss_cons (ps_if (pt_cmpR op_lt (pv 1) (pe_callB (len_seqK (K := K) rfl) (by rfl) B.len (by decide +kernel) (pa_cons (pv 0) pa_nil)) (nomark _)) (pss_one (ps_ret (pe_ix (ix_listK (K := K) rfl) (pv 0) (pv 1) (fun _ _ => rfl)))) pss_nil)
      (pss_one (ps_ret pe_int))), ?_⟩
    refine ⟨_, rfl, _, rfl, a, _, rfl, .inl hS, 0, _, rfl, rfl, _, rfl, ?_⟩
    refine ite2 (fun c => ?_) (fun c => ?_)
    · have c' : (0 : Int) < ((ns.map V.int).length : Int) := of_decide_eq_true c
      have hl : 0 < ns.length := by
        rw [List.length_map] at c'
        omega
      have g0 : (ns.map V.int)[0]? = some (V.int ns[0]) := by
        rw [List.getElem?_map, List.getElem?_eq_getElem hl]
        rfl
      exact ⟨_, rfl, _, rfl, a, _, ((0 : Nat) : Int), _, rfl, rfl, hS, at_nat g0, q _⟩
    · exact q 0
abbrev N_law_next : List Str := ["_law_seed"]
theorem sc_law_next : FnScope N_law_next ["_law_seed"] (defScope x_law_next) := ⟨rfl, rfl, rfl, by decide +kernel, rfl, by decide +kernel, by decide +kernel⟩
theorem ok_law_next (D : DefAt K mg "_law_next" x_law_next ["_law_seed"]) (B : Free mg) : Cal P w K mg base 1 "_law_next" ["_law_seed"] sp_law_next := by
  refine D.ok sc_law_next (fun vs H Q E h => ?_) (fun f cdv A outer s H vs Q E hr h => ?_)
  · obtain ⟨s, rfl, _⟩ := h
    rfl
  · obtain ⟨s, rfl, h0, h1, q⟩ := h
    refine ⟨_, (pss_cons (ps_set (i := 0) sc_law_next.nd rfl (Or.inl rfl) (pe_op op_mod (pe_op op_add (pv 0) pe_int) pe_int))
      (pss_one (ps_ret (pe_op op_mod (pe_op op_add (pe_op op_add (pe_op op_mul (pv 0) (pv 0)) (pe_op op_mul pe_int (pv 0))) pe_int) pe_int)))), ?_⟩
    refine ⟨_, rfl, s, 7919, rfl, rfl, s + 7919, 2147483647, rfl, rfl, by show (0 : Int) < 2147483647; decide, ?_⟩
    have b0 : 0 ≤ (s + 7919) % 2147483647 := Int.emod_nonneg _ (by decide)
    have b1 : (s + 7919) % 2147483647 < 2147483647 := Int.emod_lt_of_pos _ (by decide)
    generalize ea : (s + 7919) % 2147483647 = a at b0 b1
    refine ⟨.int a, ?_, .int a, ?_, a, a, rfl, rfl, .inl ⟨by omega, by omega⟩, .int a, ?_, 48271, a, rfl, rfl, .inl ⟨by decide, by decide⟩, a * a, 48271 * a, rfl, rfl, a * a + 48271 * a, 12345, rfl, rfl, a * a + 48271 * a + 12345, 2147483629, rfl, rfl, by show (0 : Int) < 2147483629; decide, ?_⟩
    · show some (some (V.int ((s + 7919) % 2147483647))) = _
      rw [ea]
    · show some (some (V.int ((s + 7919) % 2147483647))) = _
      rw [ea]
    · show some (some (V.int ((s + 7919) % 2147483647))) = _
      rw [ea]
    · exact q _ (Int.emod_nonneg _ (by decide)) (Int.emod_lt_of_pos _ (by decide))
abbrev N_law_pen_of : List Str := ["_law_cell", "_law_left"]
theorem sc_law_pen_of : FnScope N_law_pen_of ["_law_cell"] (defScope x_law_pen_of) := ⟨rfl, rfl, rfl, by decide +kernel, rfl, by decide +kernel, by decide +kernel⟩
theorem ok_law_pen_of (D : DefAt K mg "_law_pen_of" x_law_pen_of ["_law_cell"]) (B : Free mg) : Cal P w K mg base 1 "_law_pen_of" ["_law_cell"] sp_law_pen_of := by
  refine D.ok sc_law_pen_of (fun vs H Q E h => ?_) (fun f cdv A outer s H vs Q E hr h => ?_)
  · obtain ⟨i, rfl, _⟩ := h
    rfl
  · obtain ⟨i, rfl, q⟩ := h
    refine ⟨_, (pss_cons (ps_set (i := 1) sc_law_pen_of.nd rfl (Or.inl rfl) (pe_callB (call_max2 (by rfl)) (by rfl) B.max (by decide +kernel) (pa_cons (pv 0) (pa_cons (pe_op op_sub pe_int (pv 0)) pa_nil))))
      (pss_one (ps_ret (pe_lst (pa_cons (pv 1) (pa_cons (pe_callTy call_int1 (by rfl) B.int (by decide +kernel) (pa_cons (pe_cmpR op_ge (pv 1) (pe_op op_pow pe_int pe_int) (nomark _)) pa_nil)) (pa_cons (pe_op op_mod (pv 1) pe_int) pa_nil))))))), ?_⟩
    refine ⟨_, rfl, _, rfl, 0, i, rfl, rfl, i, 0 - i, rfl, ?_⟩
    refine ⟨_, rfl, _, rfl, 10, 18, rfl, rfl, ⟨by decide, by decide, by decide⟩, _, _, rfl, rfl, .inr ⟨_, rfl, ?_⟩⟩
    refine ⟨_, rfl, _, 1000003, rfl, rfl, by show (0 : Int) < 1000003; decide, by show 3 ≤ sizeLine; decide, fun p hp => ?_⟩
    refine q p _ hp (Evl.Ex.new hp) ⟨_, _, _, upd_same, Int.emod_nonneg _ (by decide), ?_⟩
    have := Int.emod_lt_of_pos (if 0 - i > i then 0 - i else i) (show (0 : Int) < 1000003 by decide)
    omega
abbrev N_law_draw : List Str := ["_law_pen", "_law_many", "_law_found"]
theorem sc_law_draw : FnScope N_law_draw ["_law_pen", "_law_many"] (defScope x_law_draw) := ⟨rfl, rfl, rfl, by decide +kernel, rfl, by decide +kernel, by decide +kernel⟩
theorem ok_law_draw (D : DefAt K mg "_law_draw" x_law_draw ["_law_pen", "_law_many"]) (B : Free mg) (C_law_next : Cal P w K mg base 1 "_law_next" ["_law_seed"] sp_law_next) : Cal P w K mg base 2 "_law_draw" ["_law_pen", "_law_many"] sp_law_draw := by
  refine D.ok sc_law_draw (fun vs H Q E h => ?_) (fun f cdv A outer s H vs Q E hr h => ?_)
  · obtain ⟨p, m, rfl, _⟩ := h
    rfl
  · obtain ⟨p, m, rfl, ⟨a, b, c, hp, c0, c1⟩, hm, hm2, q⟩ := h
    refine ⟨_, (pss_cons (ps_if (pt_cmpR op_eq (pe_ix (ix_listK (K := K) rfl) (pv 0) pe_int (fun _ _ => rfl)) pe_int (nomark _)) (pss_cons (ps_set (i := 2) sc_law_draw.nd rfl (Or.inl rfl) (pe_op op_mod (pe_ix (ix_listK (K := K) rfl) (pv 0) pe_int (fun _ _ => rfl)) (pv 1)))
      (pss_cons (ps_asg (pe_op op_fdiv (pe_ix (ix_listK (K := K) rfl) (pv 0) pe_int (fun _ _ => rfl)) (pv 1)) (pg_sub (pv 0) pe_int set_list))
      (pss_one (ps_ret (pv 2))))) pss_nil)
      (pss_cons (ps_asg (pe_cal C_law_next hr (by decide) (by rfl) (pa_cons (pe_op op_add (pe_cal C_law_next hr (by decide) (by rfl) (pa_cons (pe_ix (ix_listK (K := K) rfl) (pv 0) pe_int (fun _ _ => rfl)) pa_nil)) pe_int) pa_nil)) (pg_sub (pv 0) pe_int set_list))
      (pss_one (ps_ret (pe_op op_mod (pe_op op_fdiv (pe_ix (ix_listK (K := K) rfl) (pv 0) pe_int (fun _ _ => rfl)) pe_int) (pv 1)))))), ?_⟩
    have hm' : (0 : Int) < (m : Int) := by omega
    refine ⟨_, rfl, p, _, 1, .int b, rfl, rfl, SqL.of hp, rfl, rfl, _, rfl, ?_⟩
    refine ite2 (fun _ => ?_) (fun _ => ?_)
    · refine ⟨_, rfl, p, _, 0, .int a, rfl, rfl, SqL.of hp, rfl, _, rfl, a, (m : Int), rfl, rfl, hm', ?_⟩
      refine ⟨_, rfl, p, _, 0, .int a, rfl, rfl, SqL.of hp, rfl, _, rfl, a, (m : Int), rfl, rfl, ⟨hm', by omega⟩, _, rfl, p, _, 0, 0, rfl, rfl, hp, rfl, ?_⟩
      have b0 : 0 ≤ a % (m : Int) := Int.emod_nonneg _ (by omega)
      have b1 : a % (m : Int) < (m : Int) := Int.emod_lt_of_pos _ hm'
      have ed : vi (a % (m : Int)).toNat = V.int (a % (m : Int)) := by
        show V.int (((a % (m : Int)).toNat : Nat) : Int) = _
        rw [Int.toNat_of_nonneg b0]
      refine ⟨V.int (a % (m : Int)), rfl, ?_⟩
      have z := q (a % (m : Int)).toNat (upd H p (.lst [.int (a / (m : Int)), .int b, .int c])) (by omega) (fun x hx => upd_ne hx) ⟨_, _, _, upd_same, c0, c1⟩
      rw [ed] at z
      exact z
    · refine ⟨_, rfl, p, _, 2, .int c, rfl, rfl, SqL.of hp, rfl, c, rfl, c0, by omega, fun r r0 r1 => ?_⟩
      refine ⟨r, 7, rfl, rfl, r + 7, rfl, by omega, by omega, fun s s0 s1 => ?_⟩
      refine ⟨_, rfl, p, _, 2, 2, rfl, rfl, hp, rfl, ?_⟩
      have hp2 : upd H p (.lst [.int a, .int b, .int s]) p = some (.lst [.int a, .int b, .int s]) := upd_same
      refine ⟨_, rfl, p, _, 2, .int s, rfl, rfl, SqL.of hp2, rfl, s, 64, rfl, rfl, ⟨by decide, by decide⟩, _, rfl, s / 64, (m : Int), rfl, rfl, hm', ?_⟩
      have b0 : 0 ≤ (s / 64) % (m : Int) := Int.emod_nonneg _ (by omega)
      have b1 : (s / 64) % (m : Int) < (m : Int) := Int.emod_lt_of_pos _ hm'
      have ed : vi ((s / 64) % (m : Int)).toNat = V.int ((s / 64) % (m : Int)) := by
        show V.int ((((s / 64) % (m : Int)).toNat : Nat) : Int) = _
        rw [Int.toNat_of_nonneg b0]
      have z := q ((s / 64) % (m : Int)).toNat (upd H p (.lst [.int a, .int b, .int s])) (by omega) (fun x hx => upd_ne hx) ⟨_, _, _, hp2, s0, by omega⟩
      rw [ed] at z
      exact z
abbrev N_law_named : List Str := ["_law_web", "_law_names", "_law_ties", "_law_one", "_law_other", "_law_tie"]
theorem sc_law_named : FnScope N_law_named ["_law_web", "_law_names"] (defScope x_law_named) := ⟨rfl, rfl, rfl, by decide +kernel, rfl, by decide +kernel, by decide +kernel⟩
theorem ok_law_named (D : DefAt K mg "_law_named" x_law_named ["_law_web", "_law_names"]) (B : Free mg) : Cal P w K mg base 1 "_law_named" ["_law_web", "_law_names"] sp_law_named := by
  refine D.ok sc_law_named (fun vs H Q E h => ?_) (fun f cdv A outer s H vs Q E hr h => ?_)
  · obtain ⟨v, nv, n, ps, fl, rfl, _⟩ := h
    rfl
  · obtain ⟨v, nv, n, ps, fl, rfl, hw, hok, h16, h64, ⟨nt, rfl, hnt⟩, hN, q⟩ := h
    refine ⟨_, (pss_cons (ps_setLc (i := 2) (own := [("_law_one", 3), ("_law_other", 4)]) (g := gTup K 2 (gCons (gName 3) (gCons (gName 4) gNil))) (tt := tYes) (by rfl) sc_law_named.nd rfl rfl (sw_true rfl rfl rfl (by decide +kernel)) (pi_tupK (K := K) rfl (pe_ix (ix_tupK (K := K) rfl) (pv 0) pe_int (fun _ _ => rfl))) (blkOk_by (N := N_law_named) (sc := defScope x_law_named) (own := [("_law_one", 3), ("_law_other", 4)]) (by decide +kernel)) (fun _ _ _ _ _ => (pg_tupK (K := K) rfl (pg_tup rfl (pgs_cons (pg_name (i := 3) sc_law_named.nd rfl (Or.inl rfl)) (pgs_cons (pg_name (i := 4) sc_law_named.nd rfl (Or.inl rfl)) pgs_nil))))) (fun _ _ _ _ _ => pts_nil) (fun _ _ _ _ _ => (pe_tup (pa_cons (pe_ix (ix_tupK (K := K) rfl) (pv 1) (pv 3) (fun _ _ => rfl)) (pa_cons (pe_ix (ix_tupK (K := K) rfl) (pv 1) (pv 4) (fun _ _ => rfl)) pa_nil)))))
      (pss_one (ps_ret (pe_tup (pa_cons (pe_ix (ix_tupK (K := K) rfl) (pv 0) pe_int (fun _ _ => rfl)) (pa_cons (pe_callTy call_tuple_of (by rfl) B.tuple (by decide +kernel) (pa_cons (pe_callB (cr_sortedT (by rfl)) (by rfl) B.sorted (by decide +kernel) (pa_cons (pe_callTy (cr_setOfT (by rfl) hr.units) (by rfl) B.set (by decide +kernel) (pa_cons (pe_lc (own := [("_law_tie", 5)]) (g := gName 5) (tt := tYes) (by rfl) sc_law_named.nd (pi_listK (K := K) rfl (pv 2)) (blkOk_by (N := N_law_named) (sc := defScope x_law_named) (own := [("_law_tie", 5)]) (by decide +kernel)) (fun _ _ _ _ _ => (pg_name (i := 5) sc_law_named.nd rfl (Or.inl rfl))) (fun _ _ _ _ _ => pts_nil) (fun _ _ _ _ _ => (pe_tup (pa_cons (pe_callB (minTK (K := K) rfl (by rfl) hr.units) (by rfl) B.min (by decide +kernel) (pa_cons (pv 5) pa_nil)) (pa_cons (pe_callB (maxTK (K := K) rfl (by rfl) hr.units) (by rfl) B.max (by decide +kernel) (pa_cons (pv 5) pa_nil)) pa_nil))))) pa_nil)) pa_nil)) pa_nil)) pa_nil)))))), ?_⟩
    obtain ⟨a, t, rfl, ha, ts, ht, hts⟩ := id hw
    refine ⟨_, rfl, a, _, 1, _, rfl, rfl, SqT.of ha, rfl, t, rfl, ⟨ts, SqT.of ht⟩, fun D hD => ?_⟩
    refine lc_all hD ps ts (rel_len hts) (fun e y H => IsP H (at0 fl e.1, at0 fl e.2) y) (fun x y H H' e h => h.mono (Ex.t e)) (walk_tup (K := K)) (fun H2 e => Evl.ex_t e (SqT.of ht)) (by rw [← rel_len hts]; omega) (fun j x s H2 Qn hx hs hy e k => ?_) fun H2 zs e hd hz => ?_
    · obtain ⟨y, hy2, pp, rfl, hpp⟩ := rel_get hts hx
      have es : s = .ref pp := Option.some.inj (hs.symm.trans hy2)
      subst es
      have lt := hok x (List.mem_of_getElem? hx)
      have g1 : (fl.map vi)[x.1]? = some (vi (at0 fl x.1)) := by
        rw [List.getElem?_map, at0_some (by rw [hN.len]; omega)]
        rfl
      have g2 : (fl.map vi)[x.2]? = some (vi (at0 fl x.2)) := by
        rw [List.getElem?_map, at0_some (by rw [hN.len]; omega)]
        rfl
      refine ⟨pp, _, rfl, SqT.of (e _ _ hpp), rfl, vi x.1, [vi x.2], rfl, vi x.2, [], rfl, rfl, rfl, ?_⟩
      refine ⟨_, rfl, _, rfl, nt, _, (x.1 : Int), _, rfl, rfl, SqT.of (e _ _ hnt), at_nat g1, _, rfl, _, rfl, nt, _, (x.2 : Int), _, rfl, rfl, SqT.of (e _ _ hnt), at_nat g2, by show 2 ≤ sizeLine; decide, fun p hp => ?_⟩
      obtain ⟨e3, h3⟩ := new2 hp (.tup [vi (at0 fl x.1), vi (at0 fl x.2)])
      obtain ⟨us, hus⟩ := hy
      exact k _ _ e3 ⟨p, rfl, del_tup (e3 _ _ hus) _ _ h3⟩
    · have hz0 : Paired (IsP H2) (namePairs fl ps) zs := paired_map (R := IsP H2) hz
      have hb : ∀ p ∈ namePairs fl ps, p.1 < 64 ∧ p.2 < 64 := fun p hp => by
        obtain ⟨d, hd', rfl⟩ := mem_namePairs.mp hp
        have lt := hok d hd'
        have := hN.lt lt.1
        have := hN.lt lt.2.1
        exact ⟨by omega, by omega⟩
      refine ⟨_, rfl, a, _, 0, _, rfl, rfl, SqT.of (e _ _ ha), rfl, ?_⟩
      refine ⟨_, rfl, D, rfl, ⟨_, SqL.of hd⟩, fun D2 hD2 => ?_⟩
      refine lc_all hD2 (namePairs fl ps) zs (rel_len hz0) (fun p y H => IsP H (norm p) y) (fun x y H H' e h => h.mono (Ex.t e)) (walk_list (K := K)) (fun H' e => Evl.ex_l e (SqL.of hd)) (by rw [← rel_len hz0]; unfold namePairs; rw [List.length_map]; omega) (fun i p s H3 Qn hx hs hy e3 k => ?_) fun H3 ys e3 hd3 hz3 => ?_
      · obtain ⟨z, hz1, c, rfl, hc⟩ := rel_get hz0 hx
        have es : s = .ref c := Option.some.inj (hs.symm.trans hz1)
        subst es
        have hc2 := e3 _ _ hc
        refine ⟨rfl, _, rfl, c, p.1, p.2, rfl, SqT.of hc2, _, rfl, c, p.1, p.2, rfl, SqT.of hc2, by show 2 ≤ sizeLine; decide, fun t2 ht2 => ?_⟩
        obtain ⟨e4, h4⟩ := new2 ht2 (.tup [.int (min (p.1 : Int) (p.2 : Int)), .int (max (p.1 : Int) (p.2 : Int))])
        refine k _ _ e4 ⟨t2, rfl, ?_⟩
        obtain ⟨us, hus⟩ := hy
        rw [natMin, natMax] at e4 h4 ⊢
        exact del_tup (e4 _ _ hus) _ _ h4
      · dsimp only [tNil]
        refine sort_set (K := K) (P := P) (w := w) hd3 (paired_map (R := IsP H3) hz3) (by unfold namePairs; rw [List.length_map]; exact h64) hb fun t3 H4 R vs e4 hR ht3 hvs => ?_
        refine ⟨t3, _, rfl, .inl ⟨SqL.of ht3, fun u hu => ?_⟩⟩
        obtain ⟨e5, h5⟩ := new2 hu (.tup vs)
        refine ⟨by show 2 ≤ sizeLine; decide, fun b hb2 => ?_⟩
        obtain ⟨e6, h6⟩ := new2 hb2 (.tup [vi n, V.ref u])
        exact q _ _ R (((e.trans e3).trans e4).trans (e5.trans e6)) hR ⟨b, u, rfl, h6, _, e6 _ _ h5, rel_mono hvs fun x y z => z.mono (Ex.t (e5.trans e6))⟩
abbrev N_law_names_by : List Str := ["_law_pen", "_law_many", "_law_left", "_law_place"]
theorem sc_law_names_by : FnScope N_law_names_by ["_law_pen", "_law_many"] (defScope x_law_names_by) := ⟨rfl, rfl, rfl, by decide +kernel, rfl, by decide +kernel, by decide +kernel⟩
theorem ok_law_names_by (D : DefAt K mg "_law_names_by" x_law_names_by ["_law_pen", "_law_many"]) (B : Free mg) (C_law_draw : Cal P w K mg base 2 "_law_draw" ["_law_pen", "_law_many"] sp_law_draw) : Cal P w K mg base 3 "_law_names_by" ["_law_pen", "_law_many"] sp_law_names_by := by
  refine D.ok sc_law_names_by (fun vs H Q E h => ?_) (fun f cdv A outer s H vs Q E hr h => ?_)
  · obtain ⟨p, n, rfl, _⟩ := h
    rfl
  · obtain ⟨p, n, rfl, hpen, h16, q⟩ := h
    refine ⟨_, (pss_cons (ps_set (i := 2) sc_law_names_by.nd rfl (Or.inr rfl) (pe_listRg (by rfl) (by rfl) B.list (prg_1 (by rfl) B.range (pv 1))))
      (pss_one (ps_ret (pe_callTy call_tuple_of (by rfl) B.tuple (by decide +kernel) (pa_cons (pe_lc (own := [("_law_place", 3)]) (g := gName 3) (tt := tYes) (by rfl) sc_law_names_by.nd (pi_range1 (by rfl) B.range (pa_cons (pv 1) pa_nil)) (blkOk_by (N := N_law_names_by) (sc := defScope x_law_names_by) (own := [("_law_place", 3)]) (by decide +kernel)) (fun _ _ _ _ _ => (pg_name (i := 3) sc_law_names_by.nd rfl (Or.inl rfl))) (fun _ _ _ _ _ => pts_nil) (fun _ _ _ _ _ => (pe_bmK (K := K) rfl (pe_bm PySem.F.plainAttrs_list PySem.F.slot_list_pop PySem.F.type_list_pop mt_popAt (pv 2) (pa_cons (pe_cal C_law_draw hr (by decide) (by rfl) (pa_cons (pv 0) (pa_cons (pe_callB (len_seqK (K := K) rfl) (by rfl) B.len (by decide +kernel) (pa_cons (pv 2) pa_nil)) pa_nil))) pa_nil))))) pa_nil))))), ?_⟩
    refine ⟨_, rfl, (n : Int), rfl, RgOk.of_le (by omega) (by omega) (by omega) (by omega), fun lf hlf => ?_⟩
    obtain ⟨e1, h1⟩ := new2 hlf (.lst (rgV 0 (n : Int)))
    rw [rgV0] at e1 h1 ⊢
    have nlp := hpen.not hlf
    refine ⟨_, rfl, (n : Int), rfl, by omega, by omega, fun D hD => ?_⟩
    have nDp := (hpen.ex e1).not hD
    have nDl : D ≠ lf := fun z => by
      rw [z, h1] at hD
      cases hD
    refine lc_range (lo := 0) (n := ((n : Nat) : Int).toNat) (fun i H' => ∃ (fl l : List Nat), ExP p H H' ∧ PenAt H' p ∧ H' D = some (.lst (fl.map vi)) ∧ H' lf = some (.lst (l.map vi)) ∧ fl.length = i ∧ (fl ++ l).Perm (List.range n))
      ⟨[], List.range n, (Ex.p (e1.trans (Evl.Ex.new hD))), hpen.ex (e1.trans (Evl.Ex.new hD)), upd_same, by rw [upd_ne nDl.symm]; exact h1, rfl, List.Perm.refl _⟩ (fun i H' hi ⟨fl, l, ex, pen, hfd, hl, hlen, pm⟩ => ?_) fun H' ⟨fl, l, ex, pen, hfd, hl, hlen, pm⟩ => ?_
    · have hi' : i < n := by
        rw [Int.toNat_natCast] at hi
        exact hi
      have hll : fl.length + l.length = n := by
        have := pm.length_eq
        rw [List.length_append, List.length_range] at this
        exact this
      refine ⟨rfl, tYes_go ?_⟩
      refine ⟨_, rfl, .inl ⟨rfl, _, SqL.of hl⟩, _, rfl, _, rfl, lf, _, rfl, .inl (SqL.of hl), p, (l.map vi).length, rfl, pen, ?_, ?_, fun d H3 hd oth pen3 => ?_⟩
      · rw [List.length_map]
        omega
      · rw [List.length_map]
        omega
      · rw [List.length_map] at hd
        have hl3 : H3 lf = some (.lst (l.map vi)) := by rw [oth lf nlp]; exact hl
        have hD3 : H3 D = some (.lst (fl.map vi)) := by rw [oth D nDp]; exact hfd
        have gd : (l.map vi)[d]? = some (vi l[d]) := by
          rw [List.getElem?_map, List.getElem?_eq_getElem hd]
          rfl
        have sq := (ixN_seq (ixN_ok (n := (l.map vi).length) (j := d) (by rw [List.length_map]; exact hd))).1
        refine ⟨lf, _, (d : Int), d, _, rfl, rfl, hl3, by omega, by omega, sq, gd, ?_⟩
        refine ⟨fl.map vi, by rw [upd_ne nDl]; exact hD3, small1000 (by rw [List.length_map]; omega), fl ++ [l[d]], l.eraseIdx d, ?_, ?_, ?_, ?_, ?_, ?_⟩
        · intro x o hx hxo
          have h3 := oth.p x o hx (ex x o hx hxo)
          rw [upd_ne (ne_of_none hxo (Evl.fresh_back e1 hD)), upd_ne (ne_of_none hxo hlf)]
          exact h3
        · obtain ⟨a, b, c, h5, h6⟩ := pen3
          refine ⟨a, b, c, ?_, h6⟩
          rw [upd_ne nDp.symm, upd_ne nlp.symm]
          exact h5
        · rw [upd_same, List.map_append]
          rfl
        · rw [upd_ne nDl.symm, upd_same, eraseIdx_map']
        · rw [List.length_append, hlen]
          rfl
        · refine List.Perm.trans ?_ pm
          rw [List.append_assoc]
          exact (erase_perm hd).symm.append_left fl
    · rw [Int.toNat_natCast] at hlen
      have hll : fl.length + l.length = n := by
        have := pm.length_eq
        rw [List.length_append, List.length_range] at this
        exact this
      have l0 : l = [] := List.eq_nil_of_length_eq_zero (by omega)
      rw [l0, List.append_nil] at pm
      refine ⟨D, _, rfl, .inl ⟨SqL.of hfd, fun u hu => ?_⟩⟩
      obtain ⟨e2, h2⟩ := new2 hu (.tup (fl.map vi))
      exact q _ _ fl (ex.trans (Ex.p e2)) (pen.ex e2) ⟨pm⟩ ⟨u, rfl, h2⟩
abbrev N_law_turned : List Str := ["_law_many", "_law_steps", "_law_ties", "_law_step", "_law_place", "_law_other"]
theorem sc_law_turned : FnScope N_law_turned ["_law_many", "_law_steps"] (defScope x_law_turned) := ⟨rfl, rfl, rfl, by decide +kernel, rfl, by decide +kernel, by decide +kernel⟩
theorem ok_law_turned (D : DefAt K mg "_law_turned" x_law_turned ["_law_many", "_law_steps"]) (B : Free mg) : Cal P w K mg base 1 "_law_turned" ["_law_many", "_law_steps"] sp_law_turned := by
  refine D.ok sc_law_turned (fun vs H Q E h => ?_) (fun f cdv A outer s H vs Q E hr h => ?_)
  · obtain ⟨n, sl, ss, rfl, _⟩ := h
    rfl
  · obtain ⟨n, sl, ss, rfl, hsl, hn, h8, hss, hst, q⟩ := h
    refine ⟨_, (pss_cons (ps_set (i := 2) sc_law_turned.nd rfl (Or.inl rfl) (pe_lst pa_nil))
      (pss_cons (ps_for PassesOwn.never rfl (pi_listK (K := K) rfl (pv 1)) (pg_name (i := 3) sc_law_turned.nd rfl (Or.inl rfl)) (pss_one (ps_for PassesOwn.never rfl (pi_range1 (by rfl) B.range (pa_cons (pv 0) pa_nil)) (pg_name (i := 4) sc_law_turned.nd rfl (Or.inl rfl)) (pss_cons (ps_set (i := 5) sc_law_turned.nd rfl (Or.inl rfl) (pe_op op_mod (pe_op op_add (pv 4) (pv 3)) (pv 0)))
      (pss_one (ps_expr (pe_bmK (K := K) rfl (pe_bm PySem.F.plainAttrs_list PySem.F.slot_list_append PySem.F.type_list_append mt_append (pv 2) (pa_cons (pe_tup (pa_cons (pe_callB (call_min2 (by rfl)) (by rfl) B.min (by decide +kernel) (pa_cons (pv 4) (pa_cons (pv 5) pa_nil))) (pa_cons (pe_callB (call_max2 (by rfl)) (by rfl) B.max (by decide +kernel) (pa_cons (pv 4) (pa_cons (pv 5) pa_nil))) pa_nil))) pa_nil)))))))))
      (pss_one (ps_ret (pe_tup (pa_cons (pv 0) (pa_cons (pe_callTy call_tuple_of (by rfl) B.tuple (by decide +kernel) (pa_cons (pe_callB (cr_sortedT (by rfl)) (by rfl) B.sorted (by decide +kernel) (pa_cons (pe_callTy (cr_setOfT (by rfl) hr.units) (by rfl) B.set (by decide +kernel) (pa_cons (pv 2) pa_nil)) pa_nil)) pa_nil)) pa_nil))))))), ?_⟩
    refine ⟨Nat.zero_le _, fun tt htt => ?_⟩
    obtain ⟨e1, h1⟩ := new2 htt (.lst [])
    refine ⟨_, rfl, sl, rfl, ⟨_, SqL.of (e1 _ _ hsl)⟩, ?_⟩
    refine for_list (K := K) (a := sl) (xs := ss.map vi) (fun i σ' H' => ∃ y3 y4 y5 zs ps, σ' = [some (vi n), some (.ref sl), some (.ref tt), y3, y4, y5] ∧ Ex H H' ∧ H' tt = some (.lst zs) ∧ Paired (IsP H') (ps.map norm) zs ∧ PairsOk n ps ∧ ps.length = i * n)
      ⟨_, _, _, [], [], rfl, e1, h1, .nil, fun e he => (nomatch he), by simp⟩ (fun i σ' H' _ ⟨_, _, _, _, _, _, e, _⟩ => SqL.of (e _ _ hsl)) (fun i x σ' H' hx ⟨y3, y4, y5, zs, ps, es, e, ht, hz, hok, hlen⟩ => ?_) (fun σ' H' ⟨y3, y4, y5, zs, ps, es, e, ht, hz, hok, hlen⟩ => ?_)
    · subst es
      rw [List.getElem?_map] at hx
      obtain ⟨s, hs, ex⟩ := Option.map_eq_some_iff.mp hx
      subst ex
      have hsm := hst s (List.mem_of_getElem? hs)
      have hi4 : i < 4 := by
        have := (List.getElem?_eq_some_iff.mp hs).1
        omega
      refine ⟨_, rfl, (n : Int), rfl, by omega, by omega, ?_⟩
      refine for_range (lo := 0) (n := ((n : Nat) : Int).toNat) (fun j σ2 H2 => ∃ y4 y5 zs ps, σ2 = [some (vi n), some (.ref sl), some (.ref tt), some (vi s), y4, y5] ∧ Ex H H2 ∧ H2 tt = some (.lst zs) ∧ Paired (IsP H2) (ps.map norm) zs ∧ PairsOk n ps ∧ ps.length = i * n + j)
        ⟨_, _, zs, ps, rfl, e, ht, hz, hok, hlen⟩ (fun j σ2 H2 hj ⟨y4, y5, zs, ps, es, e2, ht2, hz2, hok2, hlen2⟩ => ?_) (fun σ2 H2 ⟨y4, y5, zs, ps, es, e2, ht2, hz2, hok2, hlen2⟩ => ?_)
      · subst es
        have hj' : j < n := by
          rw [Int.toNat_natCast] at hj
          exact hj
        have e0 : (0 : Int) + (j : Int) = (j : Int) := Int.zero_add _
        rw [e0]
        have em : ((j : Int) + (s : Int)) % (n : Int) = (((j + s) % n : Nat) : Int) := by
          rw [Int.natCast_emod, Int.natCast_add]
        refine ⟨_, rfl, _, rfl, (j : Int), (s : Int), rfl, rfl, _, rfl, (j : Int) + (s : Int), (n : Int), rfl, rfl, by show (0 : Int) < (n : Int); omega, ?_⟩
        refine ⟨_, rfl, .inl ⟨rfl, _, SqL.of ht2⟩, _, rfl, _, rfl, (j : Int), ((j : Int) + (s : Int)) % (n : Int), rfl, _, rfl, _, rfl, (j : Int), ((j : Int) + (s : Int)) % (n : Int), rfl, by show 2 ≤ sizeLine; decide, fun c hc => ?_⟩
        rw [em, ifMin, ifMax] at *
        obtain ⟨e3, h3⟩ := new2 hc (.tup [vi (min j ((j + s) % n)), vi (max j ((j + s) % n))])
        have hlz : zs.length = ps.length := by
          have := rel_len hz2
          rw [List.length_map] at this
          exact this.symm
        have hb8 : i * n ≤ 3 * 8 := Nat.mul_le_mul (by omega) h8
        refine ⟨tt, _, _, rfl, rfl, e3 _ _ ht2, small1000 (by omega), ?_⟩
        refine ⟨_, _, zs ++ [.ref c], ps ++ [(j, (j + s) % n)], rfl, Evl.Ex.mut (e2.trans e3) htt, upd_same, ?_, fun d hd => ?_, by rw [List.length_append]; show ps.length + 1 = _; omega⟩
        · rw [List.map_append]
          have et := extT_upd (o := .lst (zs ++ [.ref c])) (e3 _ _ ht2)
          exact Paired.snoc (rel_mono hz2 fun x y z => (z.mono (Ex.t e3)).mono et) (IsP.mono et ⟨c, rfl, h3⟩)
        · rcases List.mem_append.mp hd with z | z
          · exact hok2 d z
          · have ed : d = (j, (j + s) % n) := by simpa using z
            rw [ed]
            refine ⟨hj', Nat.mod_lt _ hn, fun z => ?_⟩
            have z2 : j = (j + s) % n := z
            rcases Nat.lt_or_ge (j + s) n with l | l
            · rw [Nat.mod_eq_of_lt l] at z2
              omega
            · rw [Nat.mod_eq_sub_mod l, Nat.mod_eq_of_lt (by omega)] at z2
              omega
      · rw [Int.toNat_natCast] at hlen2
        exact ⟨_, _, _, zs, ps, es, e2, ht2, hz2, hok2, by rw [hlen2, Nat.add_mul, Nat.one_mul]⟩
    · subst es
      rw [List.length_map] at hlen
      have hb8 : ss.length * n ≤ 4 * 8 := Nat.mul_le_mul hss h8
      refine ⟨_, rfl, _, rfl, ?_⟩
      dsimp only [tNil]
      refine sort_set (K := K) (P := P) (w := w) ht hz (by omega) (fun p hp => ⟨by have := (hok p hp).1; omega, by have := (hok p hp).2.1; omega⟩) fun t3 H4 R vs e4 hR ht3 hvs => ?_
      refine ⟨t3, _, rfl, .inl ⟨SqL.of ht3, fun u hu => ?_⟩⟩
      obtain ⟨e5, h5⟩ := new2 hu (.tup vs)
      refine ⟨by show 2 ≤ sizeLine; decide, fun b hb2 => ?_⟩
      obtain ⟨e6, h6⟩ := new2 hb2 (.tup [vi n, V.ref u])
      exact q _ _ R ((e.trans e4).trans (e5.trans e6)) ⟨b, u, rfl, h6, _, e6 _ _ h5, rel_mono hvs fun x y z => z.mono (Ex.t (e5.trans e6))⟩ (good_pairs (hR.good hok)) (byPairs_len hR hok h8)
end
end Nsr
end
section
set_option Elab.async false
set_option linter.all false
set_option maxRecDepth 100000
set_option maxHeartbeats 8000000
set_option autoImplicit false
namespace Nsr
open PySem PySem.Spec PyProof.Rows L2
section
variable {α : Type} {J : It} {G : Hp → Prop} {g : TG} {tt : TT} {te : TE} {vs : List Nat} {σ : L2.St} {H1 : Hp} {D : Addr} {Qd : Hp → Prop}
/-- a comprehension that draws -/
theorem lc_pen {p : Addr} (hD : H1 D = none) (hp : PenAt H1 p) (xs : List α) (ss : List V) (hlen : xs.length = ss.length) (T : α → V → Hp → Prop) (hT : ∀ x y H H', ExT H H' → T x y H → T x y H')
    (w : L2.Walk J ss.length G (YAt ss)) (hG : ∀ H', ExP p H1 H' → G H') (hz : ss.length ≤ 900)
    (turn : ∀ (i : Nat) (x : α) (s : V) (H2 : Hp) (Qn : VK) (Qs : Hp → Prop), xs[i]? = some x → ss[i]? = some s → ExP p H1 H2 → PenAt H2 p → (∀ y H5, ExP p H2 H5 → PenAt H5 p → T x y H5 → Qn y H5) → (∀ H5, ExP p H2 H5 → PenAt H5 p → Qs H5) →
      g s (wipe σ vs) H2 fun σ2 H3 => wipe σ2 vs = wipe σ vs ∧ tt σ2 H3 fun b H4 => if b = true then te σ2 H4 Qn else Qs H4)
    (k : ∀ H2 zs xs', xs'.Sublist xs → ExP p H1 H2 → PenAt H2 p → H2 D = some (.lst zs) → Paired (fun x y => T x y H2) xs' zs → Qd H2) :
    ∃ W : Nat → Nat → Hp → Prop, (∃ m, W 0 m (upd H1 D (.lst []))) ∧ ∀ i m H, W i m H →
      (J.stop i H ∧ Qd H) ∨ (J.go i H ∧ ∃ Nx : Hp → Prop, (∀ H', Nx H' → ∃ m', m' < m ∧ W (i + 1) m' H') ∧ ∀ x H', J.yld i H x H' → g x (wipe σ vs) H' fun σ2 H2 => wipe σ2 vs = wipe σ vs ∧ tt σ2 H2 fun b H3 =>
        if b = true then te σ2 H3 fun y H4 => ∃ acc, H4 D = some (.lst acc) ∧ acc.length < sizeLine ∧ Nx (upd H4 D (.lst (acc ++ [y]))) else Nx H3) := by
  have nDp := hp.not hD
  refine lc_it w (fun i H => ExP p H1 H ∧ PenAt H p ∧ ∃ ys xs', H D = some (.lst ys) ∧ xs'.Sublist (xs.take i) ∧ Paired (fun x y => T x y H) xs' ys) ⟨Ex.p (Evl.Ex.new hD), hp.ex (Evl.Ex.new hD), [], [], upd_same, List.nil_sublist _, .nil⟩ (fun i H _ h => hG H h.1) ?_ ?_
  · rintro i s H H' hi ⟨e, pen, ys, xs', hy, sub, r⟩ ⟨rfl, hs⟩
    have hx : i < xs.length := by omega
    have gx : xs[i]? = some xs[i] := List.getElem?_eq_getElem hx
    have tk : xs.take (i + 1) = xs.take i ++ [xs[i]] := by rw [List.take_add_one, gx]; rfl
    refine turn i xs[i] s H' _ _ gx hs e pen (fun y H5 e5 pen5 t => ?_) (fun H5 e5 pen5 => ?_)
    · have hl : ys.length < sizeLine := by
        have h1 := rel_len r
        have h2 := sub.length_le
        rw [List.length_take] at h2
        exact small1000 (by omega)
      have hy5 := e5 _ _ nDp hy
      have et := extT_upd (o := .lst (ys ++ [y])) hy5
      refine ⟨ys, hy5, hl, fun a o ha hao => ?_, ?_, ys ++ [y], xs' ++ [xs[i]], upd_same, ?_, ?_⟩
      · rw [upd_ne (ne_of_none hao hD)]
        exact e5 a o ha (e a o ha hao)
      · obtain ⟨a, b, c, h5, h6⟩ := pen5
        exact ⟨a, b, c, by rw [upd_ne nDp.symm]; exact h5, h6⟩
      · rw [tk]
        exact sub.append (List.Sublist.refl _)
      · exact Paired.snoc (rel_mono r fun x z q => hT _ _ _ _ ((e5.t pen).trans et) q) (hT _ _ _ _ et t)
    · refine ⟨e.trans e5, pen5, ys, xs', e5 _ _ nDp hy, ?_, rel_mono r fun x z q => hT _ _ _ _ (e5.t pen) q⟩
      rw [tk]
      exact sub.trans (List.sublist_append_left _ _)
  · rintro H ⟨e, pen, ys, xs', hy, sub, r⟩
    rw [← hlen, List.take_length] at sub
    exact k H ys xs' sub e pen hy r
theorem walk_rangeL (lo k : Nat) : L2.Walk (Itr (lo : Int) k) (((List.range k).map (lo + ·)).map vi).length (fun _ => True) (YAt (((List.range k).map (lo + ·)).map vi)) := by
  have e : (((List.range k).map (lo + ·)).map vi).length = k := by rw [List.length_map, List.length_map, List.length_range]
  rw [e]
  refine ⟨fun _ _ hi _ => hi, fun _ _ => Nat.le_refl _, fun i H x H' hi _ y => ⟨y.1, ?_⟩⟩
  rw [y.2, List.getElem?_map, List.getElem?_map, List.getElem?_range hi]
  show some (V.int ((lo + i : Nat) : Int)) = some (V.int ((lo : Int) + (i : Nat)))
  rw [Int.natCast_add]
end
def sp_law_shape : Sp := fun vs H Q _ => ∃ (p : Addr) (most : Nat), vs = [.ref p, vi most] ∧ PenAt H p ∧ 0 < most ∧ most ≤ 8 ∧ ∀ u H' n ps, ExP p H H' → PenAt H' p → 0 < n → n ≤ most → IsW H' u n ps → PairsOk n ps → ps.length ≤ 40 → Q u H'
theorem tri_succ (i : Nat) : tri (i + 1) = tri i ++ (List.range i).map fun a => (a, i) := by
  unfold tri
  rw [List.range_succ, List.flatMap_append]
  simp
theorem tri_ok (n : Nat) : PairsOk n (tri n) := fun e he => by
  unfold tri at he
  obtain ⟨b, hb, h⟩ := List.mem_flatMap.mp he
  obtain ⟨a, ha, rfl⟩ := List.mem_map.mp h
  have h1 := List.mem_range.mp hb
  have h2 := List.mem_range.mp ha
  exact ⟨by omega, h1, by show a ≠ b; omega⟩
theorem PairsOk.sub {n : Nat} {ps qs : Es} (h : PairsOk n qs) (s : ps.Sublist qs) : PairsOk n ps := fun e he => h e (s.subset he)
theorem pairs_of {H : Hp} {R : Nat × Nat → Nat → Prop} : ∀ {xs : List Nat} {zs : List V}, Paired (fun x y => ∃ e, R e x ∧ IsP H e y) xs zs → ∃ ps : Es, Paired (IsP H) ps zs ∧ ps.length = xs.length ∧ ∀ e ∈ ps, ∃ x ∈ xs, R e x
  | _, _, .nil => ⟨[], .nil, rfl, fun e he => (nomatch he)⟩
  | x :: xs, _, .cons r t => by
    obtain ⟨e, h1, h2⟩ := r
    obtain ⟨ps, p1, p2, p3⟩ := pairs_of t
    refine ⟨e :: ps, .cons h2 p1, by rw [List.length_cons, List.length_cons, p2], fun d hd => ?_⟩
    rcases List.mem_cons.mp hd with z | z
    · exact ⟨x, List.mem_cons_self, by rw [z]; exact h1⟩
    · obtain ⟨y, hy, h⟩ := p3 d z
      exact ⟨y, List.mem_cons_of_mem _ hy, h⟩
section
variable {P : Program} {w : World} {K : PySem.W.Frag} {mg : Str → Option Value} {base : Heap}
abbrev N_law_shape : List Str := ["_law_pen", "_law_most", "_law_way", "_law_many", "_law_every", "_law_other", "_law_one", "_law_pair", "_law_step", "_law_side", "_law_ring", "_law_place"]
theorem sc_law_shape : FnScope N_law_shape ["_law_pen", "_law_most"] (defScope x_law_shape) := ⟨rfl, rfl, rfl, by decide +kernel, rfl, by decide +kernel, by decide +kernel⟩
theorem ok_law_shape (D : DefAt K mg "_law_shape" x_law_shape ["_law_pen", "_law_most"]) (B : Free mg) (C_law_draw : Cal P w K mg base 2 "_law_draw" ["_law_pen", "_law_many"] sp_law_draw) (C_law_turned : Cal P w K mg base 1 "_law_turned" ["_law_many", "_law_steps"] sp_law_turned) : Cal P w K mg base 3 "_law_shape" ["_law_pen", "_law_most"] sp_law_shape := by
  refine D.ok sc_law_shape (fun vs H Q E h => ?_) (fun f cdv A outer s H vs Q E hr h => ?_)
  · obtain ⟨p, most, rfl, _⟩ := h
    rfl
  · obtain ⟨p, most, rfl, pen, hm0, hm8, q⟩ := h
    refine ⟨_, (pss_cons (ps_set (i := 2) sc_law_shape.nd rfl (Or.inr rfl) (pe_cal C_law_draw hr (by decide) (by rfl) (pa_cons (pv 0) (pa_cons pe_int pa_nil))))
      (pss_cons (ps_set (i := 3) sc_law_shape.nd rfl (Or.inl rfl) (pe_op op_add pe_int (pe_cal C_law_draw hr (by decide) (by rfl) (pa_cons (pv 0) (pa_cons (pv 1) pa_nil)))))
      (pss_cons (ps_set (i := 4) sc_law_shape.nd rfl (Or.inl rfl) (pe_lst pa_nil))
      (pss_cons (ps_for PassesOwn.never rfl (pi_range1 (by rfl) B.range (pa_cons (pv 3) pa_nil)) (pg_name (i := 5) sc_law_shape.nd rfl (Or.inr rfl)) (pss_one (ps_set (i := 4) sc_law_shape.nd rfl (Or.inl rfl) (pe_op op_cat (pv 4) (pe_lc (own := [("_law_one", 6)]) (g := gName 6) (tt := tYes) (by rfl) sc_law_shape.nd (pi_range1 (by rfl) B.range (pa_cons (pv 5) pa_nil)) (blkOk_by (N := N_law_shape) (sc := defScope x_law_shape) (own := [("_law_one", 6)]) (by decide +kernel)) (fun _ _ _ _ _ => (pg_name (i := 6) sc_law_shape.nd rfl (Or.inl rfl))) (fun _ _ _ _ _ => pts_nil) (fun _ _ _ _ _ => (pe_tup (pa_cons (pv 6) (pa_cons (pv 5) pa_nil)))))))))
      (pss_cons (ps_if (pt_cmpR op_lt (pv 2) pe_int (nomark _)) (pss_one (ps_ret (pe_tup (pa_cons (pv 3) (pa_cons (pe_callTy call_tuple_of (by rfl) B.tuple (by decide +kernel) (pa_cons (pe_lc (own := [("_law_pair", 7)]) (g := gName 7) (by rfl) sc_law_shape.nd (pi_listK (K := K) rfl (pv 4)) (blkOk_by (N := N_law_shape) (sc := defScope x_law_shape) (own := [("_law_pair", 7)]) (by decide +kernel)) (fun _ _ _ _ _ => (pg_name (i := 7) sc_law_shape.nd rfl (Or.inl rfl))) (fun _ _ _ _ _ => (pts_one (pt_cmpR op_eq (pe_cal C_law_draw hr (by decide) (by rfl) (pa_cons (pv 0) (pa_cons (pe_ix (ix_listK (K := K) rfl) (pe_lst (pa_cons pe_int (pa_cons pe_int (pa_cons pe_int pa_nil)))) (pv 2) (fun _ _ => rfl)) pa_nil))) pe_int (nomark _)))) (fun _ _ _ _ _ => (pv 7))) pa_nil)) pa_nil))))) pss_nil)
      (Evl.pss_cut (ps_if (PW.pt (pw_and (pt_cmpR op_eq (pv 2) pe_int (nomark _)) (pw_and1 (pt_cmpR op_gt (pv 3) pe_int (nomark _))))) (pss_one (ps_ret (pe_cal C_law_turned hr (by decide) (by rfl) (pa_cons (pv 3) (pa_cons (pe_lc (own := [("_law_step", 8)]) (g := gName 8) (by rfl) sc_law_shape.nd (pi_range2 (by rfl) B.range (pa_cons pe_int (pa_cons (pe_op op_add (pe_op op_fdiv (pv 3) pe_int) pe_int) pa_nil))) (blkOk_by (N := N_law_shape) (sc := defScope x_law_shape) (own := [("_law_step", 8)]) (by decide +kernel)) (fun _ _ _ _ _ => (pg_name (i := 8) sc_law_shape.nd rfl (Or.inl rfl))) (fun _ _ _ _ _ => (pts_one (pt_cmpR op_eq (pe_cal C_law_draw hr (by decide) (by rfl) (pa_cons (pv 0) (pa_cons pe_int pa_nil))) pe_int (nomark _)))) (fun _ _ _ _ _ => (pv 8))) pa_nil))))) pss_nil)
      (pss_cons (ps_if (pt_cmpR op_eq (pv 2) pe_int (nomark _)) (pss_cons (ps_set (i := 9) sc_law_shape.nd rfl (Or.inr rfl) (pe_op op_add pe_int (pe_cal C_law_draw hr (by decide) (by rfl) (pa_cons (pv 0) (pa_cons (pv 3) pa_nil)))))
      (pss_one (ps_ret (pe_tup (pa_cons (pv 3) (pa_cons (pe_callTy call_tuple_of (by rfl) B.tuple (by decide +kernel) (pa_cons (pe_lc (own := [("_law_other", 5), ("_law_one", 6)]) (g := gTup K 2 (gCons (gName 6) (gCons (gName 5) gNil))) (by rfl) sc_law_shape.nd (pi_listK (K := K) rfl (pv 4)) (blkOk_by (N := N_law_shape) (sc := defScope x_law_shape) (own := [("_law_other", 5), ("_law_one", 6)]) (by decide +kernel)) (fun _ _ _ _ _ => (pg_tupK (K := K) rfl (pg_tup rfl (pgs_cons (pg_name (i := 6) sc_law_shape.nd rfl (Or.inl rfl)) (pgs_cons (pg_name (i := 5) sc_law_shape.nd rfl (Or.inl rfl)) pgs_nil))))) (fun _ _ _ _ _ => (pts_one (pt_cmpR op_ne (pe_cmpR op_lt (pv 6) (pv 9) (nomark _)) (pe_cmpR op_lt (pv 5) (pv 9) (nomark _)) (nomark _)))) (fun _ _ _ _ _ => (pe_tup (pa_cons (pv 6) (pa_cons (pv 5) pa_nil))))) pa_nil)) pa_nil)))))) pss_nil)
      (Evl.pss_cut (ps_if (PW.pt (pw_and (pt_cmpR op_eq (pv 2) pe_int (nomark _)) (pw_and1 (pt_cmpR op_gt (pv 1) pe_int (nomark _))))) pss_never pss_nil)
      (Evl.pss_cut (ps_if (PW.pt (pw_and (pt_cmpR op_eq (pv 2) pe_int (nomark _)) (pw_and1 (pt_cmpR op_gt (pv 3) pe_int (nomark _))))) (pss_one (ps_ret (pe_tup (pa_cons (pv 3) (pa_cons (pe_callTy call_tuple_of (by rfl) B.tuple (by decide +kernel) (pa_cons (pe_op op_cat (pe_lc (own := [("_law_place", 11)]) (g := gName 11) (tt := tYes) (by rfl) sc_law_shape.nd (pi_range1 (by rfl) B.range (pa_cons (pe_op op_sub (pv 3) pe_int) pa_nil)) (blkOk_by (N := N_law_shape) (sc := defScope x_law_shape) (own := [("_law_place", 11)]) (by decide +kernel)) (fun _ _ _ _ _ => (pg_name (i := 11) sc_law_shape.nd rfl (Or.inl rfl))) (fun _ _ _ _ _ => pts_nil) (fun _ _ _ _ _ => (pe_tup (pa_cons (pv 11) (pa_cons (pe_op op_add (pv 11) pe_int) pa_nil))))) (pe_lst (pa_cons (pe_tup (pa_cons pe_int (pa_cons (pe_op op_sub (pv 3) pe_int) pa_nil))) pa_nil))) pa_nil)) pa_nil))))) pss_nil)
      (pss_one (ps_ret (pe_tup (pa_cons (pv 3) (pa_cons (pe_callTy call_tuple_of (by rfl) B.tuple (by decide +kernel) (pa_cons (pe_lc (own := [("_law_place", 11)]) (g := gName 11) (tt := tYes) (by rfl) sc_law_shape.nd (pi_range2 (by rfl) B.range (pa_cons pe_int (pa_cons (pv 3) pa_nil))) (blkOk_by (N := N_law_shape) (sc := defScope x_law_shape) (own := [("_law_place", 11)]) (by decide +kernel)) (fun _ _ _ _ _ => (pg_name (i := 11) sc_law_shape.nd rfl (Or.inl rfl))) (fun _ _ _ _ _ => pts_nil) (fun _ _ _ _ _ => (pe_tup (pa_cons (pe_cal C_law_draw hr (by decide) (by rfl) (pa_cons (pv 0) (pa_cons (pv 11) pa_nil))) (pa_cons (pv 11) pa_nil))))) pa_nil)) pa_nil)))))))))))))), ?_⟩
    -- way, many
    refine ⟨_, rfl, p, 8, rfl, pen, by decide, by decide, fun way H1 hway oth1 pen1 => ?_⟩
    refine ⟨_, rfl, _, rfl, p, most, rfl, pen1, hm0, by omega, fun d2 H2 hd2 oth2 pen2 => ⟨1, (d2 : Int), rfl, rfl, ?_⟩⟩
    have e12 : ExP p H H2 := oth1.p.trans oth2.p
    have em : V.int (1 + (d2 : Int)) = vi (1 + d2) := by
      show V.int _ = V.int _
      congr 1
    dsimp only
    rw [em]
    obtain ⟨n, hn⟩ : ∃ n, n = 1 + d2 := ⟨_, rfl⟩
    rw [← hn]
    have n0 : 0 < n := by omega
    have nm : n ≤ most := by omega
    have n8 : n ≤ 8 := by omega
    -- every
    refine ⟨Nat.zero_le _, fun ev0 hev0 => ?_⟩
    obtain ⟨e3, h3⟩ := new2 hev0 (.lst [])
    refine ⟨_, rfl, (n : Int), rfl, by omega, by omega, ?_⟩
    refine for_range (lo := 0) (n := ((n : Nat) : Int).toNat) (fun i σ' H' => ∃ ev y5 zs, σ' = [some (.ref p), some (vi most), some (vi way), some (vi n), some (.ref ev), y5, none, none, none, none, none, none] ∧ Ex H2 H' ∧ H' ev = some (.lst zs) ∧ Paired (IsP H') (tri i) zs)
      ⟨ev0, _, [], rfl, e3, h3, .nil⟩ (fun i σ' H' hi ⟨ev, y5, zs, es, e, hev, hz⟩ => ?_) (fun σ' H0 ⟨ev, y5, zs, es, e, hev, hz⟩ => ?_)
    · subst es
      have hi' : i < n := by
        rw [Int.toNat_natCast] at hi
        exact hi
      have e0 : (0 : Int) + (i : Int) = (i : Int) := Int.zero_add _
      rw [e0]
      refine ⟨_, rfl, _, rfl, (i : Int), rfl, by omega, by omega, fun D hD => ?_⟩
      refine lc_all hD (List.range i) ((List.range i).map vi) (by rw [List.length_map]) (fun a y H => IsP H (a, i) y) (fun x y H H' e h => h.mono (Ex.t e)) (walk_rangeN i) (fun _ _ => trivial) (by rw [List.length_map, List.length_range]; omega) (fun j x s H4 Qn hx hs hy e4 k => ?_) fun H4 zs2 e4 hd hz2 => ?_
      · obtain ⟨rfl, lj⟩ := rangeV_get hs
        obtain ⟨rfl, _⟩ := range_get hx
        refine ⟨rfl, _, rfl, _, rfl, by show 2 ≤ sizeLine; decide, fun t ht => ?_⟩
        obtain ⟨e5, h5⟩ := new2 ht (.tup [vi x, vi i])
        obtain ⟨us, hus⟩ := hy
        exact k _ _ e5 ⟨t, rfl, del_tup (e5 _ _ hus) _ _ h5⟩
      · have hz2' : Paired (IsP H4) ((List.range i).map fun a => (a, i)) zs2 := paired_map (R := IsP H4) hz2
        have l1 : zs.length ≤ 28 := by
          rw [← rel_len hz]
          exact tri8 i (by omega)
        have l2 : zs2.length = i := by
          rw [← rel_len hz2, List.length_range]
        refine ⟨ev, D, zs, zs2, rfl, rfl, e4 _ _ hev, hd, Nat.le_of_lt (small1000 (by omega)), fun l hl => ?_⟩
        obtain ⟨e5, h5⟩ := new2 hl (.lst (zs ++ zs2))
        refine ⟨l, _, zs ++ zs2, rfl, (e.trans e4).trans e5, h5, ?_⟩
        rw [tri_succ]
        have app : ∀ {xs ys : Es} {us ws : List V}, Paired (IsP (upd H4 l (.lst (zs ++ zs2)))) xs us → Paired (IsP (upd H4 l (.lst (zs ++ zs2)))) ys ws → Paired (IsP (upd H4 l (.lst (zs ++ zs2)))) (xs ++ ys) (us ++ ws) := by
          intro xs ys us ws a b
          induction a with
          | nil => exact b
          | cons r t ih => exact .cons r ih
        exact app (rel_mono hz fun x y z => z.mono (Ex.t (e4.trans e5))) (rel_mono hz2' fun x y z => z.mono (Ex.t e5))
    · subst es
      rw [Int.toNat_natCast] at hz
      have hev2 := e12.trans (Ex.p (p := p) e)
      have penH := pen2.ex e
      have l28 : zs.length ≤ 28 := by
        rw [← rel_len hz]
        exact tri8 n (by omega)
      have nevp : ev ≠ p := fun z => by
        obtain ⟨a, b, c, h5, _⟩ := penH
        rw [z, h5] at hev
        have e1 : [V.int a, .int b, .int c] = zs := HO.lst.inj (Option.some.inj hev)
        rw [← e1] at hz
        obtain ⟨y, _, r⟩ := rel_get' hz (i := 0) (y := V.int a) rfl
        obtain ⟨t, ht, _⟩ := r
        cases ht
      -- the last lines of each way
      have fin : ∀ (D : Addr) (H4 : Hp) (zs : List V) (ps : Es), ExP p H H4 → PenAt H4 p → H4 D = some (.lst zs) → Paired (IsP H4) ps zs → PairsOk n ps → ps.length ≤ 40 → ∀ t, H4 t = none → ∀ a, upd H4 t (.tup zs) a = none → Q (.ref a) (upd (upd H4 t (.tup zs)) a (.tup [vi n, .ref t])) := fun D H4 zs ps ex pn hd hz ok len t ht a ha => by
        obtain ⟨e5, h5⟩ := new2 ht (.tup zs)
        obtain ⟨e6, h6⟩ := new2 ha (.tup [vi n, .ref t])
        exact q _ _ n ps (ex.trans (Ex.p (e5.trans e6))) (pn.ex (e5.trans e6)) n0 nm ⟨a, t, rfl, h6, zs, e6 _ _ h5, rel_mono hz fun x y z => z.mono (Ex.t (e5.trans e6))⟩ ok len
      -- if way < 3
      refine ⟨_, rfl, (way : Int), 3, rfl, rfl, _, rfl, ?_⟩
      refine ite2 (fun c => ?_) (fun c => ?_)
      · have c' : (way : Int) < 3 := of_decide_eq_true c
        refine ⟨_, rfl, _, rfl, ev, rfl, ⟨zs, SqL.of hev⟩, fun D hD => ?_⟩
        refine lc_pen hD penH (tri n) zs (rel_len hz) (fun e y H => IsP H e y) (fun x y H H' e h => h.mono e) (walk_list (K := K)) (fun H3 e3 => SqL.of (e3 _ _ nevp hev)) (by omega) (fun j x s H3 Qn Qs hx hs ex3 pen3 k1 k2 => ?_) fun H4 zs4 ps4 sub4 ex4 pen4 hd4 hz4 => ?_
        · obtain ⟨y, hy2, hp2⟩ := rel_get hz hx
          have es : s = y := Option.some.inj (hs.symm.trans hy2)
          subst es
          obtain ⟨m, hm, mm0, mm1⟩ : ∃ m : Nat, ([V.int 2, .int 3, .int 6] : List V)[way]? = some (vi m) ∧ 0 < m ∧ m < 1000 := by
            have h3 : way = 0 ∨ way = 1 ∨ way = 2 := by omega
            rcases h3 with z | z | z <;> rw [z]
            · exact ⟨2, rfl, by decide, by decide⟩
            · exact ⟨3, rfl, by decide, by decide⟩
            · exact ⟨6, rfl, by decide, by decide⟩
          refine ⟨rfl, _, rfl, by show 3 ≤ sizeLine; decide, fun l hl => ?_⟩
          obtain ⟨e5, h5⟩ := new2 hl (.lst [V.int 2, .int 3, .int 6])
          refine ⟨_, rfl, l, _, (way : Int), _, rfl, rfl, SqL.of h5, at_nat hm, p, m, rfl, pen3.ex e5, mm0, mm1, fun d H6 hd6 oth6 pen6 => ?_⟩
          have e36 : ExP p H3 H6 := (Ex.p e5).trans oth6.p
          refine ⟨rfl, _, rfl, ?_⟩
          refine ite2 (fun _ => ?_) (fun _ => ?_)
          · exact ⟨_, rfl, k1 _ _ e36 pen6 (hp2.mono ((ex3.trans e36).t penH))⟩
          · exact k2 _ e36 pen6
        · refine ⟨D, _, rfl, .inl ⟨SqL.of hd4, fun t ht => ⟨by show 2 ≤ sizeLine; decide, fin D H4 zs4 ps4 (hev2.trans ex4) pen4 hd4 hz4 ((tri_ok n).sub sub4) ?_ t ht⟩⟩⟩
          have := sub4.length_le
          have := tri8 n (by omega)
          omega
      · have c' : ¬ (way : Int) < 3 := of_decide_eq_false (Bool.eq_false_iff.mpr c)
        -- if way == 3 and many > 2
        refine ⟨fun σ' H' => σ' = [some (.ref p), some (vi most), some (vi way), some (vi n), some (.ref ev), y5, none, none, none, none, none, none] ∧ H0 = H', ?_, fun σ' H' ⟨es, eh⟩ => ?_⟩
        · refine ⟨_, rfl, rfl, _, rfl, ?_⟩
          refine ite2 (fun _ => ?_) (fun _ => ?_)
          · refine ⟨_, rfl, (n : Int), 2, rfl, rfl, _, rfl, ?_⟩
            by_cases n2 : 2 < n
            · rw [decide_eq_true (show (2 : Int) < (n : Int) by omega)]
              refine iteT ?_
              have ediv : ((n : Int) / 2 + 1 - 1).toNat = n / 2 := by omega
              refine ⟨_, rfl, _, rfl, (n : Int), 2, rfl, rfl, ⟨by decide, by decide⟩, (n : Int) / 2, 1, rfl, rfl, 1, (n : Int) / 2 + 1, rfl, ⟨by decide, by decide, by omega, by omega⟩, fun D hD => ?_⟩
              rw [ediv]
              refine lc_pen hD penH ((List.range (n / 2)).map (1 + ·)) (((List.range (n / 2)).map (1 + ·)).map vi) (by rw [List.length_map (f := vi)]) (fun x y _ => y = vi x) (fun _ _ _ _ _ h => h) (walk_rangeL 1 (n / 2)) (fun _ _ => trivial) (by simp; omega) (fun j x s H3 Qn Qs hx hs ex3 pen3 k1 k2 => ?_) fun H4 zs4 ss4 sub4 ex4 pen4 hd4 hz4 => ?_
              · have es : s = vi x := by
                  rw [List.getElem?_map, hx] at hs
                  exact (Option.some.inj hs).symm
                subst es
                refine ⟨rfl, _, rfl, p, 3, rfl, pen3, by decide, by decide, fun d H6 hd6 oth6 pen6 => ?_⟩
                refine ⟨rfl, _, rfl, ?_⟩
                refine ite2 (fun _ => ?_) (fun _ => ?_)
                · exact ⟨_, rfl, k1 _ _ oth6.p pen6 rfl⟩
                · exact k2 _ oth6.p pen6
              · have ez := rel_map hz4
                subst ez
                have hl4 := sub4.length_le
                rw [List.length_map, List.length_range] at hl4
                refine ⟨n, D, ss4, rfl, hd4, n0, n8, by omega, fun s hs => ?_, fun u H5 ps e5 hW hok hlen => q u H5 n ps ((hev2.trans ex4).trans (Ex.p e5)) (pen4.ex e5) n0 nm hW hok (by omega)⟩
                obtain ⟨i, hi, rfl⟩ := List.mem_map.mp (sub4.subset hs)
                have := List.mem_range.mp hi
                omega
            · rw [decide_eq_false (show ¬ (2 : Int) < (n : Int) by omega)]
              exact iteF ⟨rfl, rfl⟩
          · exact iteF ⟨rfl, rfl⟩
        subst es
        subst eh
        -- if way == 4
        refine ⟨_, rfl, rfl, _, rfl, ?_⟩
        refine ite2 (fun _ => ?_) (fun _ => ?_)
        · refine ⟨_, rfl, _, rfl, p, n, rfl, penH, n0, by omega, fun d5 H5 hd5 oth5 pen5 => ⟨1, (d5 : Int), rfl, rfl, ?_⟩⟩
          have hev5 := oth5.p _ _ nevp hev
          have hz5 := rel_mono hz fun x y z => z.mono (oth5.p.t penH)
          refine ⟨_, rfl, _, rfl, ev, rfl, ⟨zs, SqL.of hev5⟩, fun D hD => ?_⟩
          refine lc_pen hD pen5 (tri n) zs (rel_len hz) (fun e y H => IsP H e y) (fun x y H H' e h => h.mono e) (walk_list (K := K)) (fun H3 e3 => SqL.of (e3 _ _ nevp hev5)) (by omega) (fun j x s H3 Qn Qs hx hs ex3 pen3 k1 k2 => ?_) fun H4 zs4 ps4 sub4 ex4 pen4 hd4 hz4 => ?_
          · obtain ⟨y, hy2, hp2⟩ := rel_get hz5 hx
            have es : s = y := Option.some.inj (hs.symm.trans hy2)
            subst es
            obtain ⟨pp, rfl, hpp⟩ := hp2.mono (ex3.t pen5)
            refine ⟨pp, _, rfl, SqT.of hpp, rfl, vi x.1, [vi x.2], rfl, vi x.2, [], rfl, rfl, rfl, ?_⟩
            refine ⟨_, rfl, _, rfl, (x.1 : Int), 1 + (d5 : Int), rfl, rfl, _, rfl, _, rfl, (x.2 : Int), 1 + (d5 : Int), rfl, rfl, rfl, _, rfl, ?_⟩
            refine ite2 (fun _ => ?_) (fun _ => ?_)
            · refine ⟨_, rfl, _, rfl, by show 2 ≤ sizeLine; decide, fun t ht => ?_⟩
              obtain ⟨e6, h6⟩ := new2 ht (.tup [vi x.1, vi x.2])
              exact k1 _ _ (Ex.p e6) (pen3.ex e6) ⟨t, rfl, h6⟩
            · exact k2 _ (ExP.refl p _) pen3
          · refine ⟨D, _, rfl, .inl ⟨SqL.of hd4, fun t ht => ⟨by show 2 ≤ sizeLine; decide, fin D H4 zs4 ps4 ((hev2.trans oth5.p).trans ex4) pen4 hd4 hz4 ((tri_ok n).sub sub4) ?_ t ht⟩⟩⟩
            have := sub4.length_le
            have := tri8 n (by omega)
            omega
        · -- if way == 5 and most > 9
          refine ⟨fun σ' H' => σ' = [some (.ref p), some (vi most), some (vi way), some (vi n), some (.ref ev), y5, none, none, none, none, none, none] ∧ H0 = H', ?_, fun σ' H' ⟨es, eh⟩ => ?_⟩
          · refine ⟨_, rfl, rfl, _, rfl, ?_⟩
            refine ite2 (fun _ => ?_) (fun _ => ?_)
            · refine ⟨_, rfl, (most : Int), 9, rfl, rfl, _, rfl, ?_⟩
              rw [decide_eq_false (show ¬ (9 : Int) < (most : Int) by omega)]
              exact iteF ⟨rfl, rfl⟩
            · exact iteF ⟨rfl, rfl⟩
          subst es
          subst eh
          -- if way == 6 and many > 2
          refine ⟨fun σ' H' => σ' = [some (.ref p), some (vi most), some (vi way), some (vi n), some (.ref ev), y5, none, none, none, none, none, none] ∧ H0 = H', ?_, fun σ' H' ⟨es, eh⟩ => ?_⟩
          · refine ⟨_, rfl, rfl, _, rfl, ?_⟩
            refine ite2 (fun _ => ?_) (fun _ => ?_)
            · refine ⟨_, rfl, (n : Int), 2, rfl, rfl, _, rfl, ?_⟩
              by_cases n2 : 2 < n
              · rw [decide_eq_true (show (2 : Int) < (n : Int) by omega)]
                refine iteT ?_
                have en1 : ((n : Int) - 1).toNat = n - 1 := by omega
                refine ⟨_, rfl, _, rfl, (n : Int), 1, rfl, rfl, (n : Int) - 1, rfl, by omega, by omega, fun D hD => ?_⟩
                rw [en1]
                refine lc_all hD (List.range (n - 1)) ((List.range (n - 1)).map vi) (by rw [List.length_map]) (fun a y H => IsP H (a, a + 1) y) (fun x y H H' e h => h.mono (Ex.t e)) (walk_rangeN (n - 1)) (fun _ _ => trivial) (by rw [List.length_map, List.length_range]; omega) (fun j x s H4 Qn hx hs hy e4 k => ?_) fun H4 zs2 e4 hd hz2 => ?_
                · obtain ⟨rfl, lj⟩ := rangeV_get hs
                  obtain ⟨rfl, _⟩ := range_get hx
                  refine ⟨rfl, _, rfl, _, rfl, (x : Int), 1, rfl, rfl, by show 2 ≤ sizeLine; decide, fun t ht => ?_⟩
                  obtain ⟨e5, h5⟩ := new2 ht (.tup [vi x, .int ((x : Int) + 1)])
                  obtain ⟨us, hus⟩ := hy
                  exact k _ _ e5 ⟨t, rfl, del_tup (e5 _ _ hus) _ _ h5⟩
                · have hz2' : Paired (IsP H4) ((List.range (n - 1)).map fun a => (a, a + 1)) zs2 := paired_map (R := IsP H4) hz2
                  have l2 : zs2.length = n - 1 := by
                    rw [← rel_len hz2, List.length_range]
                  refine ⟨_, rfl, (n : Int), 1, rfl, rfl, by show 2 ≤ sizeLine; decide, fun t ht => ?_⟩
                  obtain ⟨e5, h5⟩ := new2 ht (.tup [V.int 0, .int ((n : Int) - 1)])
                  refine ⟨by show 1 ≤ sizeLine; decide, fun t2 ht2 => ?_⟩
                  obtain ⟨e6, h6⟩ := new2 ht2 (.lst [V.ref t])
                  refine ⟨D, t2, _, _, rfl, rfl, e6 _ _ (e5 _ _ hd), h6, Nat.le_of_lt (small1000 (by show zs2.length + 1 ≤ 1000; omega)), fun l hl => ?_⟩
                  obtain ⟨e7, h7⟩ := new2 hl (.lst (zs2 ++ [V.ref t]))
                  have e567 := (e5.trans e6).trans e7
                  have hpz : IsP (upd (upd (upd H4 t (.tup [V.int 0, .int ((n : Int) - 1)])) t2 (.lst [V.ref t])) l (.lst (zs2 ++ [V.ref t]))) (0, n - 1) (.ref t) := by
                    refine ⟨t, rfl, e7 _ _ (e6 _ _ (h5.trans ?_))⟩
                    congr 3
                    show [V.int ((n : Int) - 1)] = [V.int ((n - 1 : Nat) : Int)]
                    rw [show ((n : Int) - 1) = ((n - 1 : Nat) : Int) by omega]
                  refine ⟨l, _, rfl, .inl ⟨SqL.of h7, fun t3 ht3 => ⟨by show 2 ≤ sizeLine; decide, fin l _ _ ((List.range (n - 1)).map (fun a => (a, a + 1)) ++ [(0, n - 1)]) (hev2.trans (Ex.p (e4.trans e567))) (penH.ex (e4.trans e567)) h7 (Paired.snoc (rel_mono hz2' fun x y z => z.mono (Ex.t e567)) hpz) (fun d hd => ?_) ?_ t3 ht3⟩⟩⟩
                  · rcases List.mem_append.mp hd with z | z
                    · obtain ⟨a, ha, rfl⟩ := List.mem_map.mp z
                      have := List.mem_range.mp ha
                      exact ⟨by show a < n; omega, by show a + 1 < n; omega, by show a ≠ a + 1; omega⟩
                    · have ed : d = (0, n - 1) := by simpa using z
                      rw [ed]
                      exact ⟨n0, by show n - 1 < n; omega, by show 0 ≠ n - 1; omega⟩
                  · rw [List.length_append, List.length_map, List.length_range]
                    show n - 1 + 1 ≤ 40
                    omega
              · rw [decide_eq_false (show ¬ (2 : Int) < (n : Int) by omega)]
                exact iteF ⟨rfl, rfl⟩
            · exact iteF ⟨rfl, rfl⟩
          subst es
          subst eh
          -- the last way
          have en1 : ((n : Int) - 1).toNat = n - 1 := by omega
          refine ⟨_, rfl, _, rfl, 1, (n : Int), rfl, ⟨by decide, by decide, by omega, by omega⟩, fun D hD => ?_⟩
          rw [en1]
          refine lc_pen hD penH ((List.range (n - 1)).map (1 + ·)) (((List.range (n - 1)).map (1 + ·)).map vi) (by rw [List.length_map (f := vi)]) (fun x y H => ∃ e, (e.1 < x ∧ e.2 = x) ∧ IsP H e y) (fun x y H H' e h => by obtain ⟨d, h1, h2⟩ := h; exact ⟨d, h1, h2.mono e⟩) (walk_rangeL 1 (n - 1)) (fun _ _ => trivial) (by simp; omega) (fun j x s H3 Qn Qs hx hs ex3 pen3 k1 k2 => ?_) fun H4 zs4 ss4 sub4 ex4 pen4 hd4 hz4 => ?_
          · have es : s = vi x := by
              rw [List.getElem?_map, hx] at hs
              exact (Option.some.inj hs).symm
            subst es
            obtain ⟨i, hi, ex⟩ := List.mem_map.mp (List.mem_of_getElem? hx)
            have := List.mem_range.mp hi
            refine ⟨rfl, tYes_go ?_⟩
            refine ⟨_, rfl, _, rfl, p, x, rfl, pen3, by omega, by omega, fun d H6 hd6 oth6 pen6 => ?_⟩
            refine ⟨_, rfl, by show 2 ≤ sizeLine; decide, fun t ht => ?_⟩
            obtain ⟨e7, h7⟩ := new2 ht (.tup [vi d, vi x])
            exact k1 _ _ (oth6.p.trans (Ex.p e7)) (pen6.ex e7) ⟨(d, x), ⟨hd6, rfl⟩, t, rfl, h7⟩
          · obtain ⟨ps, hps, hlen, hall⟩ := pairs_of (R := fun e x => e.1 < x ∧ e.2 = x) hz4
            refine ⟨D, _, rfl, .inl ⟨SqL.of hd4, fun t ht => ⟨by show 2 ≤ sizeLine; decide, fin D H4 zs4 ps (hev2.trans ex4) pen4 hd4 hps (fun e he => ?_) ?_ t ht⟩⟩⟩
            · obtain ⟨x, hx, h1, h2⟩ := hall e he
              obtain ⟨i, hi, rfl⟩ := List.mem_map.mp (sub4.subset hx)
              have := List.mem_range.mp hi
              exact ⟨by omega, by omega, by omega⟩
            · have := sub4.length_le
              rw [List.length_map, List.length_range] at this
              omega
end
end Nsr
end
section
set_option Elab.async false
set_option linter.all false
set_option maxRecDepth 100000
set_option maxHeartbeats 8000000
set_option autoImplicit false
namespace Nsr
open PySem PySem.Spec PyProof.Rows L2
def sp_law_web_by : Sp := fun vs H Q _ => ∃ (p : Addr) (most : Nat), vs = [.ref p, vi most] ∧ PenAt H p ∧ 0 < most ∧ most ≤ 8 ∧ ∀ u H' n E, ExP p H H' → PenAt H' p → 0 < n → n ≤ most → IsW H' u n E → Good n E → Q u H'
def pdP (e : Nat × Nat) : PyData := .tuple [.int (e.1 : Int), .int (e.2 : Int)]
def pdW (n : Nat) (E : Es) : PyData := .tuple [.int (n : Int), .tuple (E.map pdP)]
theorem dp_P {K : PySem.W.Frag} {H : Hp} {e : Nat × Nat} {v : V} (h : IsP H e v) : Dp K H v (pdP e) := by
  obtain ⟨p, rfl, h⟩ := h
  exact .tup (SqT.of h) (.cons (.int _) (.cons (.int _) .nil))
theorem dp_Ps {K : PySem.W.Frag} {H : Hp} : ∀ {ps : Es} {zs : List V}, Paired (IsP H) ps zs → DpAll K H zs (ps.map pdP)
  | _, _, .nil => .nil
  | _, _, .cons r t => .cons (dp_P r) (dp_Ps t)
theorem dp_W {K : PySem.W.Frag} {H : Hp} {n : Nat} {E : Es} {v : V} (h : IsW H v n E) : Dp K H v (pdW n E) := by
  obtain ⟨p, t, rfl, h, ts, ht, hts⟩ := h
  exact .tup (SqT.of h) (.cons (.int _) (.cons (.tup (SqT.of ht) (dp_Ps hts)) .nil))
theorem depth_Ps (ps : Es) : PyData.depthAll (ps.map pdP) ≤ 3 := by
  induction ps with
  | nil => simp [PyData.depthAll]
  | cons a r ih =>
    rw [List.map_cons, PyData.depthAll]
    have : PyData.depth (pdP a) ≤ 3 := by
      unfold pdP
      simp [PyData.depth, PyData.depthAll]
    omega
theorem canLay_Ps (ps : Es) : PyData.canLayAll0 (ps.map pdP) = true := by
  induction ps with
  | nil => simp [PyData.canLayAll0]
  | cons a r ih =>
    rw [List.map_cons, PyData.canLayAll0, ih]
    unfold pdP
    simp [PyData.canLay0, PyData.canLayAll0]
theorem shaped_Ps (ps : Es) : SeqAt.shaped (.list (ps.map pdP)) = true := by
  unfold SeqAt.shaped
  rw [PyData.canLay0, canLay_Ps, PyData.depth]
  have := depth_Ps ps
  simp
  omega
theorem shaped_W (n : Nat) (E : Es) : SeqAt.shaped (pdW n E) = true := by
  unfold SeqAt.shaped pdW
  rw [PyData.canLay0, PyData.canLayAll0, PyData.canLayAll0, PyData.canLayAll0, PyData.canLay0, PyData.canLay0, canLay_Ps, PyData.depth, PyData.depthAll, PyData.depthAll, PyData.depthAll, PyData.depth, PyData.depth]
  have := depth_Ps E
  simp
  omega
theorem eqv_nil (ps : Es) : PyData.eqv (.list (ps.map pdP)) (.list []) = decide (ps = []) := by
  cases ps with
  | nil => simp [PyData.eqv, PyData.eqvAll]
  | cons a r => simp [PyData.eqv, PyData.eqvAll]
theorem eqv_webs {n m : Nat} {E F : Es} (h : n ≠ m) : PyData.eqv (pdW n E) (pdW m F) = false := by
  unfold pdW
  rw [PyData.eqv, PyData.eqvAll, PyData.eqv]
  have : ((n : Int) == (m : Int)) = false := by
    rw [beq_eq_false_iff_ne]
    omega
  rw [this]
  rfl
theorem paired_erase {R : Nat × Nat → V → Prop} : ∀ {ps : Es} {zs : List V}, Paired R ps zs → ∀ d, Paired R (ps.eraseIdx d) (zs.eraseIdx d)
  | _, _, .nil, _ => .nil
  | _, _, .cons r t, 0 => t
  | _, _, .cons r t, d + 1 => .cons r (paired_erase t d)
section
variable {P : Program} {w : World} {K : PySem.W.Frag} {mg : Str → Option Value} {base : Heap}
abbrev N_law_web_by : List Str := ["_law_pen", "_law_most", "_law_many", "_law_ties", "_law_way", "_law_one"]
theorem sc_law_web_by : FnScope N_law_web_by ["_law_pen", "_law_most"] (defScope x_law_web_by) := ⟨rfl, rfl, rfl, by decide +kernel, rfl, by decide +kernel, by decide +kernel⟩
theorem ok_law_web_by (D : DefAt K mg "_law_web_by" x_law_web_by ["_law_pen", "_law_most"]) (B : Free mg) (C_law_named : Cal P w K mg base 1 "_law_named" ["_law_web", "_law_names"] sp_law_named) (C_law_names_by : Cal P w K mg base 3 "_law_names_by" ["_law_pen", "_law_many"] sp_law_names_by) (C_law_draw : Cal P w K mg base 2 "_law_draw" ["_law_pen", "_law_many"] sp_law_draw) (C_law_shape : Cal P w K mg base 3 "_law_shape" ["_law_pen", "_law_most"] sp_law_shape) : Cal P w K mg base 4 "_law_web_by" ["_law_pen", "_law_most"] sp_law_web_by := by
  refine D.ok sc_law_web_by (fun vs H Q E h => ?_) (fun f cdv A outer s H vs Q E hr h => ?_)
  · obtain ⟨p, most, rfl, _⟩ := h
    rfl
  · obtain ⟨p, most, rfl, pen, hm0, hm8, q⟩ := h
    refine ⟨_, (pss_cons (ps_asg (pe_cal C_law_shape hr (by decide) (by rfl) (pa_cons (pv 0) (pa_cons (pv 1) pa_nil))) (pg_tupK (K := K) rfl (pg_tup rfl (pgs_cons (pg_name (i := 2) sc_law_web_by.nd rfl (Or.inl rfl)) (pgs_cons (pg_name (i := 3) sc_law_web_by.nd rfl (Or.inl rfl)) pgs_nil)))))
      (pss_cons (ps_set (i := 3) sc_law_web_by.nd rfl (Or.inl rfl) (pe_callTy call_list_of (by rfl) B.list (by decide +kernel) (pa_cons (pv 3) pa_nil)))
      (pss_cons (ps_set (i := 4) sc_law_web_by.nd rfl (Or.inl rfl) (pe_cal C_law_draw hr (by decide) (by rfl) (pa_cons (pv 0) (pa_cons pe_int pa_nil))))
      (Evl.pss_cut (ps_if (PW.pt (pw_and (pt_cmpR op_eq (pv 4) pe_int (nomark _)) (pw_and1 (pt_cmpR (neDK (K := K) rfl hr.units) (pv 3) (pe_lst pa_nil) (nomark _))))) (pss_one (ps_expr (pe_bmK (K := K) rfl (pe_bm PySem.F.plainAttrs_list PySem.F.slot_list_pop PySem.F.type_list_pop mt_popAt (pv 3) (pa_cons (pe_cal C_law_draw hr (by decide) (by rfl) (pa_cons (pv 0) (pa_cons (pe_callB (len_seqK (K := K) rfl) (by rfl) B.len (by decide +kernel) (pa_cons (pv 3) pa_nil)) pa_nil))) pa_nil))))) pss_nil)
      (Evl.pss_cut (ps_if (PW.pt (pw_and (pt_cmpR op_eq (pv 4) pe_int (nomark _)) (pw_and1 (pt_cmpR op_gt (pv 2) pe_int (nomark _))))) (pss_cons (ps_set (i := 5) sc_law_web_by.nd rfl (Or.inl rfl) (pe_cal C_law_draw hr (by decide) (by rfl) (pa_cons (pv 0) (pa_cons (pv 2) pa_nil))))
      (pss_one (ps_expr (pe_bmK (K := K) rfl (pe_bm PySem.F.plainAttrs_list PySem.F.slot_list_append PySem.F.type_list_append mt_append (pv 3) (pa_cons (pe_tup (pa_cons (pv 5) (pa_cons (pe_op op_mod (pe_op op_add (pe_op op_add (pv 5) pe_int) (pe_cal C_law_draw hr (by decide) (by rfl) (pa_cons (pv 0) (pa_cons (pe_op op_sub (pv 2) pe_int) pa_nil)))) (pv 2)) pa_nil))) pa_nil)))))) pss_nil)
      (pss_one (ps_ret (pe_cal C_law_named hr (by decide) (by rfl) (pa_cons (pe_tup (pa_cons (pv 2) (pa_cons (pe_callTy call_tuple_of (by rfl) B.tuple (by decide +kernel) (pa_cons (pv 3) pa_nil)) pa_nil))) (pa_cons (pe_cal C_law_names_by hr (by decide) (by rfl) (pa_cons (pv 0) (pa_cons (pv 2) pa_nil))) pa_nil)))))))))), ?_⟩
    refine ⟨_, rfl, _, rfl, p, most, rfl, pen, hm0, hm8, fun u H1 n ps ex1 pen1 n0 nm hW hok hlen => ?_⟩
    obtain ⟨a, t, rfl, ha, ts, ht, hts⟩ := hW
    refine ⟨a, _, rfl, SqT.of ha, rfl, vi n, [.ref t], rfl, .ref t, [], rfl, rfl, ?_⟩
    -- ties = list(ties)
    refine ⟨_, rfl, t, ts, rfl, .inr (SqT.of ht), fun l hl => ?_⟩
    obtain ⟨e2, h2⟩ := new2 hl (.lst ts)
    have nlp := pen1.not hl
    have hl0 : H l = none := by
      cases z : H l with
      | none => rfl
      | some o =>
        rw [ex1 l o nlp z] at hl
        cases hl
    -- way
    refine ⟨_, rfl, p, 6, rfl, pen1.ex e2, by decide, by decide, fun way H3 hway oth3 pen3 => ?_⟩
    have ex3 : ExP p H H3 := ex1.trans ((Ex.p e2).trans oth3.p)
    have hl3 : H3 l = some (.lst ts) := by rw [oth3 l nlp]; exact h2
    have hz3 : Paired (IsP H3) ps ts := rel_mono hts fun x y z => (z.mono (Ex.t e2)).mono (oth3.p.t (pen1.ex e2))
    -- if way == 0 and ties != []
    refine ⟨fun σ' H' => σ' = [some (.ref p), some (vi most), some (vi n), some (.ref l), some (vi way), none] ∧ ExP p H H' ∧ PenAt H' p ∧ ∃ zs qs, H' l = some (.lst zs) ∧ Paired (IsP H') qs zs ∧ PairsOk n qs ∧ qs.length ≤ 40, ?_, fun σ' H4 ⟨es, ex4, pen4, zs, qs, hl4, hz4, hok4, hlen4⟩ => ?_⟩
    · refine ⟨_, rfl, rfl, _, rfl, ?_⟩
      refine ite2 (fun _ => ?_) (fun _ => ?_)
      · refine ⟨_, rfl, Nat.zero_le _, fun l2 hl2 => ?_⟩
        obtain ⟨e5, h5⟩ := new2 hl2 (.lst [])
        have hz5 : Paired (IsP (upd H3 l2 (.lst []))) ps ts := rel_mono hz3 fun x y z => z.mono (Ex.t e5)
        refine ⟨_, _, .lst (SqL.of (e5 _ _ hl3)) (dp_Ps hz5), .lst (SqL.of h5) .nil, shaped_Ps _, by decide, _, rfl, ?_⟩
        rw [eqv_nil]
        by_cases c : ps = []
        · rw [decide_eq_true c]
          exact iteF ⟨rfl, ex3.trans (Ex.p e5), pen3.ex e5, ts, ps, e5 _ _ hl3, hz5, hok, hlen⟩
        · rw [decide_eq_false c]
          refine iteT ?_
          have hpos : 0 < ts.length := by
            rw [← rel_len hts]
            exact List.length_pos_iff.mpr c
          have htl : ts.length ≤ 40 := by rw [← rel_len hts]; exact hlen
          refine ⟨_, rfl, .inl ⟨rfl, _, SqL.of (e5 _ _ hl3)⟩, _, rfl, _, rfl, l, _, rfl, .inl (SqL.of (e5 _ _ hl3)), p, ts.length, rfl, pen3.ex e5, hpos, by omega, fun d H6 hd oth6 pen6 => ?_⟩
          have hl6 : H6 l = some (.lst ts) := by rw [oth6 l nlp]; exact e5 _ _ hl3
          have hz6 : Paired (IsP H6) ps ts := rel_mono hz5 fun x y z => z.mono (oth6.p.t (pen3.ex e5))
          have gd : ts[d]? = some ts[d] := List.getElem?_eq_getElem hd
          have sq := (ixN_seq (ixN_ok (n := ts.length) (j := d) hd)).1
          have ex6 : ExP p H H6 := ex3.trans ((Ex.p e5).trans oth6.p)
          refine ⟨l, ts, (d : Int), d, _, rfl, rfl, hl6, by omega, by omega, sq, gd, rfl, fun x o hx hxo => ?_, ?_, ts.eraseIdx d, ps.eraseIdx d, upd_same, ?_, hok.sub (List.eraseIdx_sublist _ _), Nat.le_trans (List.eraseIdx_sublist _ _).length_le hlen⟩
          · rw [upd_ne (ne_of_none hxo hl0)]
            exact ex6 x o hx hxo
          · obtain ⟨x, y, z, h7, h8⟩ := pen6
            exact ⟨x, y, z, by rw [upd_ne nlp.symm]; exact h7, h8⟩
          · exact rel_mono (paired_erase hz6 d) fun x y z => z.mono (extT_upd hl6)
      · exact iteF ⟨rfl, ex3, pen3, ts, ps, hl3, hz3, hok, hlen⟩
    subst es
    -- if way == 1 and many > 1
    refine ⟨fun σ' H' => ∃ y5, σ' = [some (.ref p), some (vi most), some (vi n), some (.ref l), some (vi way), y5] ∧ ExP p H H' ∧ PenAt H' p ∧ ∃ zs qs, H' l = some (.lst zs) ∧ Paired (IsP H') qs zs ∧ PairsOk n qs ∧ qs.length ≤ 41, ?_, fun σ' H5 ⟨y5, es, ex5, pen5, zs, qs, hl5, hz5, hok5, hlen5⟩ => ?_⟩
    · refine ⟨_, rfl, rfl, _, rfl, ?_⟩
      refine ite2 (fun _ => ?_) (fun _ => ?_)
      · refine ⟨_, rfl, (n : Int), 1, rfl, rfl, _, rfl, ?_⟩
        by_cases n1 : 1 < n
        · rw [decide_eq_true (show (1 : Int) < (n : Int) by omega)]
          refine iteT ?_
          refine ⟨_, rfl, _, rfl, p, n, rfl, pen4, n0, by omega, fun one H6 hone oth6 pen6 => ?_⟩
          have hl6 : H6 l = some (.lst zs) := by rw [oth6 l nlp]; exact hl4
          refine ⟨_, rfl, .inl ⟨rfl, _, SqL.of hl6⟩, _, rfl, _, rfl, (one : Int), 1, rfl, rfl, _, rfl, _, rfl, (n : Int), 1, rfl, rfl, ?_⟩
          have en1 : V.int ((n : Int) - 1) = vi (n - 1) := by
            show V.int _ = V.int _
            rw [show ((n : Int) - 1) = ((n - 1 : Nat) : Int) by omega]
          refine ⟨p, n - 1, ?_, pen6, by omega, by omega, fun d H7 hd oth7 pen7 => ?_⟩
          · show [V.ref p, V.int ((n : Int) - 1)] = [V.ref p, vi (n - 1)]
            rw [en1]
          have hl7 : H7 l = some (.lst zs) := by rw [oth7 l nlp]; exact hl6
          have em : ((one : Int) + 1 + (d : Int)) % (n : Int) = (((one + 1 + d) % n : Nat) : Int) := by
            rw [Int.natCast_emod, Int.natCast_add, Int.natCast_add]
            rfl
          refine ⟨(one : Int) + 1, (d : Int), rfl, rfl, _, rfl, (one : Int) + 1 + (d : Int), (n : Int), rfl, rfl, by show (0 : Int) < (n : Int); omega, by show 2 ≤ sizeLine; decide, fun c hc => ?_⟩
          obtain ⟨e8, h8⟩ := new2 hc (.tup [vi one, .int (((one : Int) + 1 + (d : Int)) % (n : Int))])
          have h8' := h8
          rw [em] at h8'
          have ex8 : ExP p H _ := ex4.trans (oth6.p.trans (oth7.p.trans (Ex.p e8)))
          have hzl : zs.length ≤ 40 := by rw [← rel_len hz4]; exact hlen4
          refine ⟨l, zs, _, rfl, rfl, e8 _ _ hl7, small1000 (by omega), _, rfl, fun x o hx hxo => ?_, ?_, zs ++ [.ref c], qs ++ [(one, (one + 1 + d) % n)], upd_same, ?_, fun y hy => ?_, ?_⟩
          · rw [upd_ne (ne_of_none hxo hl0)]
            exact ex8 x o hx hxo
          · obtain ⟨x, y, z, h9, h10⟩ := pen7.ex e8
            exact ⟨x, y, z, by rw [upd_ne nlp.symm]; exact h9, h10⟩
          · have et := extT_upd (o := .lst (zs ++ [.ref c])) (e8 _ _ hl7)
            refine Paired.snoc (rel_mono hz4 fun x y z => ((z.mono (oth6.p.t pen4)).mono ((oth7.p.t pen6).trans (Ex.t e8))).mono et) (IsP.mono et ⟨c, rfl, ?_⟩)
            rw [em]
            rw [em] at h8
            exact h8
          · rcases List.mem_append.mp hy with z | z
            · exact hok4 y z
            · have ey : y = (one, (one + 1 + d) % n) := by simpa using z
              rw [ey]
              refine ⟨hone, Nat.mod_lt _ n0, fun z => ?_⟩
              have z2 : one = (one + 1 + d) % n := z
              rcases Nat.lt_or_ge (one + 1 + d) n with lt | ge
              · rw [Nat.mod_eq_of_lt lt] at z2
                omega
              · rw [Nat.mod_eq_sub_mod ge, Nat.mod_eq_of_lt (by omega)] at z2
                omega
          · rw [List.length_append]
            show qs.length + 1 ≤ 41
            omega
        · rw [decide_eq_false (show ¬ (1 : Int) < (n : Int) by omega)]
          exact iteF ⟨_, rfl, ex4, pen4, zs, qs, hl4, hz4, hok4, by omega⟩
      · exact iteF ⟨_, rfl, ex4, pen4, zs, qs, hl4, hz4, hok4, by omega⟩
    subst es
    -- the web renamed
    refine ⟨_, rfl, _, rfl, l, zs, rfl, .inl ⟨SqL.of hl5, fun t6 ht6 => ?_⟩⟩
    obtain ⟨e6, h6⟩ := new2 ht6 (.tup zs)
    refine ⟨by show 2 ≤ sizeLine; decide, fun a7 ha7 => ?_⟩
    obtain ⟨e7, h7⟩ := new2 ha7 (.tup [vi n, .ref t6])
    have e67 := e6.trans e7
    have hW7 : IsW _ (.ref a7) n qs := ⟨a7, t6, rfl, h7, zs, e7 _ _ h6, rel_mono hz5 fun x y z => z.mono (Ex.t e67)⟩
    refine ⟨_, rfl, _, rfl, p, n, rfl, pen5.ex e67, by omega, fun nv H8 fl ex8 pen8 hN hT => ?_⟩
    refine ⟨.ref a7, nv, n, qs, fl, rfl, hW7.mono (ex8.t (pen5.ex e67)), hok5, by omega, by omega, hT, hN, fun u H9 R e9 hR hW9 => ?_⟩
    refine q u H9 n R (ex5.trans ((Ex.p e67).trans (ex8.trans (Ex.p e9)))) (pen8.ex e9) n0 nm hW9 (hR.good fun x hx => ?_)
    obtain ⟨d, hd, rfl⟩ := mem_namePairs.mp hx
    have k := hok5 d hd
    exact ⟨hN.lt k.1, hN.lt k.2.1, fun z => k.2.2 (hN.inj k.1 k.2.1 z)⟩
end
end Nsr
end
section
set_option Elab.async false
set_option linter.all false
set_option maxRecDepth 100000
set_option maxHeartbeats 8000000
set_option autoImplicit false
namespace Nsr
open PySem PySem.Spec PyProof.Rows L2
def sp_law_double_right : Sp := fun vs H Q _ => ∃ (v : V) (n : Nat) (E : Es), vs = [v] ∧ IsW H v n E ∧ Good n E ∧ 0 < n ∧ n ≤ 8 ∧ Ret (fun u _ => u = .bl true) H Q
def sp_law_folds_right : Sp := fun vs H Q _ => ∃ (v ov : V) (n : Nat) (E : Es) (m : Nat) (F : Es), vs = [v, ov] ∧ IsW H v n E ∧ Good n E ∧ n ≤ 12 ∧ IsW H ov m F ∧ Good m F ∧ m ≤ 12 ∧ (n = m → (firstFold n m E F).isSome = true) ∧ Ret (fun u _ => u = .bl true) H Q
theorem scal_oV (a b : Option Nat) : scal (oV a) (oV b) = true := by
  cases a <;> cases b <;> rfl
section
variable {P : Program} {w : World} {K : PySem.W.Frag} {mg : Str → Option Value} {base : Heap}
abbrev N_law_double_right : List Str := ["_law_web", "_law_many", "_law_double", "_law_place", "_law_ring", "_law_size"]
theorem sc_law_double_right : FnScope N_law_double_right ["_law_web"] (defScope x_law_double_right) := ⟨rfl, rfl, rfl, by decide +kernel, rfl, by decide +kernel, by decide +kernel⟩
theorem ok_law_double_right (D : DefAt K mg "_law_double_right" x_law_double_right ["_law_web"]) (B : Free mg) (C_fold_good : Cal P w K mg base 2 "fold_good" ["web", "other", "thing"] sp_fold_good) (C_shortest : Cal P w K mg base 4 "shortest" ["web"] sp_shortest) (C_near_of : Cal P w K mg base 5 "near_of" ["web", "place"] sp_near_of) (C_even_by : Cal P w K mg base 2 "even_by" ["web"] sp_even_by) (C_doubled_ring : Cal P w K mg base 5 "doubled_ring" ["web"] sp_doubled_ring) (C_sides_of : Cal P w K mg base 5 "sides_of" ["web"] sp_sides_of) (C_doubled : Cal P w K mg base 3 "doubled" ["web"] sp_doubled) : Cal P w K mg base 6 "_law_double_right" ["_law_web"] sp_law_double_right := by
  refine D.ok sc_law_double_right (fun vs H Q E h => ?_) (fun f cdv A outer s H vs Q E hr h => ?_)
  · obtain ⟨v, n, E, rfl, _⟩ := h
    rfl
  · obtain ⟨v, n, E, rfl, hw, hg, n0, n8, q⟩ := h
    refine ⟨_, (pss_cons (ps_set (i := 1) sc_law_double_right.nd rfl (Or.inr rfl) (pe_ix (ix_tupK (K := K) rfl) (pv 0) pe_int (fun _ _ => rfl)))
      (pss_cons (ps_set (i := 2) sc_law_double_right.nd rfl (Or.inr rfl) (pe_cal C_doubled hr (by decide) (by rfl) (pa_cons (pv 0) pa_nil)))
      (pss_cons (ps_if (PW.pt (pw_or (pt_cmpR op_isN (pe_cal C_sides_of hr (by decide) (by rfl) (pa_cons (pv 2) pa_nil)) pe_non (nomark _)) (pw_or (pt_cmpR op_ne (pe_cal C_doubled_ring hr (by decide) (by rfl) (pa_cons (pv 0) pa_nil)) (pe_cal C_shortest hr (by decide) (by rfl) (pa_cons (pv 2) pa_nil)) (nomark _)) (pw_or1 (pt_cmpR op_ne (pe_cal C_even_by hr (by decide) (by rfl) (pa_cons (pv 2) pa_nil)) (pe_cal C_even_by hr (by decide) (by rfl) (pa_cons (pv 0) pa_nil)) (nomark _)))))) (pss_one (ps_ret pe_bl)) pss_nil)
      (pss_cons (ps_if (pt_not (pt_val (pe_callB (cr_all (by rfl)) (by rfl) B.all (by decide +kernel) (pa_cons (pe_lc (own := [("_law_place", 3)]) (g := gName 3) (tt := tYes) (by rfl) sc_law_double_right.nd (pi_range1 (by rfl) B.range (pa_cons (pe_op op_mul pe_int (pv 1)) pa_nil)) (blkOk_by (N := N_law_double_right) (sc := defScope x_law_double_right) (own := [("_law_place", 3)]) (by decide +kernel)) (fun _ _ _ _ _ => (pg_name (i := 3) sc_law_double_right.nd rfl (Or.inl rfl))) (fun _ _ _ _ _ => pts_nil) (fun _ _ _ _ _ => (pe_cmpR op_eq (pe_callB (len_seqK (K := K) rfl) (by rfl) B.len (by decide +kernel) (pa_cons (pe_cal C_near_of hr (by decide) (by rfl) (pa_cons (pv 2) (pa_cons (pv 3) pa_nil))) pa_nil)) (pe_callB (len_seqK (K := K) rfl) (by rfl) B.len (by decide +kernel) (pa_cons (pe_cal C_near_of hr (by decide) (by rfl) (pa_cons (pv 0) (pa_cons (pe_op op_mod (pv 3) (pv 1)) pa_nil))) pa_nil)) (nomark _)))) pa_nil)))) (pss_one (ps_ret pe_bl)) pss_nil)
      (pss_cons (ps_par (i := 4) (j := 5) (by rfl) sc_law_double_right.nd rfl rfl (by decide) rfl rfl (pa_cons (pe_cal C_shortest hr (by decide) (by rfl) (pa_cons (pv 2) pa_nil)) (pa_cons (pe_cal C_shortest hr (by decide) (by rfl) (pa_cons (pv 0) pa_nil)) pa_nil)) (by rfl))
      (Evl.pss_cut (ps_if (PW.pt (pw_or (PW.pt (pw_and (pt_cmpR op_notN (pv 5) pe_non (nomark _)) (pw_and1 (PW.pt (pw_or (pt_cmpR op_isN (pv 4) pe_non (nomark _)) (pw_or (pt_cmpR op_eq (pe_op op_mod (pv 4) pe_int) pe_int (nomark _)) (pw_or1 (pt_cmpR op_lt (pv 4) (pv 5) (nomark _))))))))) (pw_or1 (PW.pt (pw_and (pt_cmpR op_isN (pv 5) pe_non (nomark _)) (pw_and1 (pt_cmpR op_notN (pv 4) pe_non (nomark _)))))))) (pss_one (ps_ret pe_bl)) pss_nil)
      (pss_one (ps_ret (pe_cmpR op_is_bl (pe_cal C_fold_good hr (by decide) (by rfl) (pa_cons (pv 2) (pa_cons (pv 0) (pa_cons (pe_callTy call_tuple_of (by rfl) B.tuple (by decide +kernel) (pa_cons (pe_lc (own := [("_law_place", 3)]) (g := gName 3) (tt := tYes) (by rfl) sc_law_double_right.nd (pi_range1 (by rfl) B.range (pa_cons (pe_op op_mul pe_int (pv 1)) pa_nil)) (blkOk_by (N := N_law_double_right) (sc := defScope x_law_double_right) (own := [("_law_place", 3)]) (by decide +kernel)) (fun _ _ _ _ _ => (pg_name (i := 3) sc_law_double_right.nd rfl (Or.inl rfl))) (fun _ _ _ _ _ => pts_nil) (fun _ _ _ _ _ => (pe_op op_mod (pv 3) (pv 1)))) pa_nil)) pa_nil)))) pe_bl (nomark _)))))))))), ?_⟩
    obtain ⟨a, t, rfl, ha, _⟩ := id hw
    refine ⟨_, rfl, a, _, 0, _, rfl, rfl, SqT.of ha, rfl, ?_⟩
    -- double
    refine ⟨_, rfl, .ref a, n, E, rfl, hw, hg, n8, fun dv H1 D e1 hD hWD => ?_⟩
    have gd := dbl_good hg hD
    have hw1 := hw.mono (Ex.t e1)
    have hun : unlikeB D (side (2 * n) D) = true := unlike_of_col gd (dbl_col hg hD)
    -- sides_of(double) is None
    refine ⟨_, rfl, dv, 2 * n, D, rfl, hWD, gd, by omega, fun u2 H2 e2 hu2 => ?_⟩
    have hsd : ∃ sa, u2 = .ref sa := by
      rcases hu2 with ⟨_, p, h1, _⟩ | ⟨h1, _⟩
      · exact ⟨p, h1⟩
      · rw [hun] at h1
        cases h1
    obtain ⟨sa, rfl⟩ := hsd
    refine ⟨rfl, _, rfl, iteF ?_⟩
    -- doubled_ring(web) != shortest(double)
    have hw2 := hw1.mono (Ex.t e2)
    have hWD2 := hWD.mono (Ex.t e2)
    refine ⟨_, rfl, .ref a, n, E, rfl, hw2, hg, n8, fun u3 H3 D' e3 hD' hu3 => ?_⟩
    subst hu3
    have hw3 := hw2.mono (Ex.t e3)
    have hWD3 := hWD2.mono (Ex.t e3)
    refine ⟨_, rfl, dv, 2 * n, D, rfl, hWD3, gd, by omega, fun u4 H4 e4 hu4 => ?_⟩
    subst hu4
    have hw4 := hw3.mono (Ex.t e4)
    have hWD4 := hWD3.mono (Ex.t e4)
    refine ⟨scal_oV _ _, _, rfl, ?_⟩
    rw [byPairs_same hD' hD, decide_eq_true rfl]
    refine iteF ?_
    -- even_by(double) != even_by(web)
    refine ⟨_, rfl, dv, 2 * n, D, rfl, hWD4, gd, by omega, by omega, fun u5 H5 e5 hu5 => ?_⟩
    subst hu5
    have hw5 := hw4.mono (Ex.t e5)
    have hWD5 := hWD4.mono (Ex.t e5)
    refine ⟨_, rfl, .ref a, n, E, rfl, hw5, hg, by omega, n0, fun u6 H6 e6 hu6 => ?_⟩
    subst hu6
    have hw6 := hw5.mono (Ex.t e6)
    have hWD6 := hWD5.mono (Ex.t e6)
    refine ⟨scal_oV _ _, _, rfl, ?_⟩
    rw [dbl_even hg hD n0, decide_eq_true rfl]
    refine iteF ?_
    -- as many ties at each place
    refine ⟨_, rfl, 2, (n : Int), rfl, rfl, .inl ⟨by decide, by decide⟩, 2 * (n : Int), rfl, by omega, by omega, fun L hL => ?_⟩
    have e2n : (2 * (n : Int)).toNat = 2 * n := by omega
    rw [e2n]
    refine lc_all hL (List.range (2 * n)) ((List.range (2 * n)).map vi) (by rw [List.length_map]) (fun j y _ => y = V.bl true) (fun _ _ _ _ _ h => h) (walk_rangeN (2 * n)) (fun _ _ => trivial) (by rw [List.length_map, List.length_range]; omega) (fun j x s H7 Qn hx hs hy e7 k => ?_) fun H7 zs e7 hd7 hz7 => ?_
    · obtain ⟨rfl, lj⟩ := rangeV_get hs
      obtain ⟨rfl, _⟩ := range_get hx
      refine ⟨rfl, _, rfl, _, rfl, dv, 2 * n, D, x, rfl, hWD6.mono (Ex.t e7), gd, by omega, lj, fun u8 H8 e8 hu8 => ?_⟩
      obtain ⟨b8, rfl, h8⟩ := hu8
      have em : (x : Int) % (n : Int) = ((x % n : Nat) : Int) := by rw [Int.natCast_emod]
      refine ⟨b8, _, rfl, .inr (SqT.of h8), _, rfl, _, rfl, _, rfl, (x : Int), (n : Int), rfl, rfl, by show (0 : Int) < (n : Int); omega, .ref a, n, E, x % n, ?_, (hw6.mono (Ex.t e7)).mono (Ex.t e8), hg, by omega, Nat.mod_lt _ n0, fun u9 H9 e9 hu9 => ?_⟩
      · show [V.ref a, V.int ((x : Int) % (n : Int))] = [V.ref a, vi (x % n)]
        rw [em]
      obtain ⟨b9, rfl, h9⟩ := hu9
      refine ⟨b9, _, rfl, .inr (SqT.of h9), rfl, k _ _ (e8.trans e9) ?_⟩
      rw [List.length_map, List.length_map, dbl_deg hg hD lj]
      exact congrArg V.bl (decide_eq_true rfl)
    · have ez := rel_map hz7
      rw [map_true] at ez
      subst ez
      refine ⟨L, _, rfl, SqL.of hd7, ?_⟩
      rw [all_true]
      refine ⟨true, rfl, iteF ?_⟩
      have hw7 := hw6.mono (Ex.t e7)
      have hWD7 := hWD6.mono (Ex.t e7)
      -- ring, size
      refine ⟨_, rfl, dv, 2 * n, D, rfl, hWD7, gd, by omega, fun u8 H8 e8 hu8 => ?_⟩
      subst hu8
      refine ⟨_, rfl, .ref a, n, E, rfl, hw7.mono (Ex.t e8), hg, by omega, fun u9 H9 e9 hu9 => ⟨_, _, rfl, ?_⟩⟩
      subst hu9
      have hw9 := (hw7.mono (Ex.t e8)).mono (Ex.t e9)
      have hWD9 := (hWD7.mono (Ex.t e8)).mono (Ex.t e9)
      have e09 : Ex H H9 := ((((((e1.trans e2).trans e3).trans e4).trans e5).trans e6).trans e7).trans (e8.trans e9)
      refine ⟨fun σ' H' => σ' = [some (.ref a), some (vi n), some dv, none, some (oV (girth D)), some (oV (girth E))] ∧ H9 = H', ?_, fun σ' H' ⟨es, eh⟩ => ?_⟩
      · rcases dbl_rings hg hD with ⟨h1, h2⟩ | ⟨s, s', h1, h2, h3, h4⟩
        · rw [h1, h2]
          refine ⟨oV none, rfl, rfl, _, rfl, ?_⟩
          refine iteF (iteF ⟨oV none, rfl, rfl, _, rfl, ?_⟩)
          refine iteT ⟨oV none, rfl, rfl, _, rfl, ?_⟩
          exact iteF ⟨rfl, rfl⟩
        · rw [h1, h2]
          refine ⟨oV (some s), rfl, rfl, _, rfl, ?_⟩
          refine iteT ⟨oV (some s'), rfl, rfl, _, rfl, ?_⟩
          refine iteF ⟨oV (some s'), rfl, (s' : Int), 2, rfl, rfl, by show (0 : Int) < 2; decide, rfl, _, rfl, ?_⟩
          rw [decide_eq_false (show ¬ ((fun i j => V.int (i % j)) (s' : Int) 2 = V.int 1) from fun z => by injection z with z; omega)]
          refine iteF ⟨oV (some s'), rfl, oV (some s), rfl, (s' : Int), (s : Int), rfl, rfl, _, rfl, ?_⟩
          dsimp only
          rw [decide_eq_false (show ¬ (s' : Int) < (s : Int) by omega)]
          refine iteF ⟨oV (some s), rfl, rfl, _, rfl, ?_⟩
          exact iteF (iteF ⟨rfl, rfl⟩)
      subst es
      subst eh
      -- fold_good(double, web, ..) is True
      refine ⟨_, rfl, _, rfl, _, rfl, 2, (n : Int), rfl, rfl, .inl ⟨by decide, by decide⟩, 2 * (n : Int), rfl, by omega, by omega, fun L2 hL2 => ?_⟩
      rw [e2n]
      refine lc_all hL2 (List.range (2 * n)) ((List.range (2 * n)).map vi) (by rw [List.length_map]) (fun j y _ => y = vi (j % n)) (fun _ _ _ _ _ h => h) (walk_rangeN (2 * n)) (fun _ _ => trivial) (by rw [List.length_map, List.length_range]; omega) (fun j x s H10 Qn hx hs hy e10 k => ?_) fun H10 zs e10 hd10 hz10 => ?_
      · obtain ⟨rfl, lj⟩ := rangeV_get hs
        obtain ⟨rfl, _⟩ := range_get hx
        refine ⟨rfl, _, rfl, _, rfl, (x : Int), (n : Int), rfl, rfl, by show (0 : Int) < (n : Int); omega, k _ _ (Evl.Ex.refl _) ?_⟩
        show V.int ((x : Int) % (n : Int)) = V.int ((x % n : Nat) : Int)
        rw [Int.natCast_emod]
      · have ez := rel_map hz10
        have ez2 : (List.range (2 * n)).map (fun j => vi (j % n)) = ((List.range (2 * n)).map (· % n)).map vi := by
          rw [List.map_map]
          rfl
        rw [ez2] at ez
        subst ez
        refine ⟨L2, _, rfl, .inl ⟨SqL.of hd10, fun tt htt => ?_⟩⟩
        obtain ⟨e11, h11⟩ := new2 htt (.tup (((List.range (2 * n)).map (· % n)).map vi))
        have eA := e10.trans e11
        refine ⟨dv, .ref a, .ref tt, 2 * n, D, n, E, _, rfl, hWD9.mono (Ex.t eA), gd, by omega, hw9.mono (Ex.t eA), hg, by omega, ⟨tt, rfl, h11⟩, fold_dbl hg hD n0, fun b H12 e12 hb => ?_⟩
        subst hb
        exact ⟨true, true, rfl, rfl, q _ _ (e09.trans (eA.trans e12)) rfl⟩
abbrev N_law_folds_right : List Str := ["_law_web", "_law_other", "_law_fold"]
theorem sc_law_folds_right : FnScope N_law_folds_right ["_law_web", "_law_other"] (defScope x_law_folds_right) := ⟨rfl, rfl, rfl, by decide +kernel, rfl, by decide +kernel, by decide +kernel⟩
theorem ok_law_folds_right (D : DefAt K mg "_law_folds_right" x_law_folds_right ["_law_web", "_law_other"]) (B : Free mg) (C_shortest : Cal P w K mg base 4 "shortest" ["web"] sp_shortest) (C_fold_good : Cal P w K mg base 2 "fold_good" ["web", "other", "thing"] sp_fold_good) (C_first_fold : Cal P w K mg base 16 "first_fold" ["web", "other"] sp_first_fold) : Cal P w K mg base 17 "_law_folds_right" ["_law_web", "_law_other"] sp_law_folds_right := by
  refine D.ok sc_law_folds_right (fun vs H Q E h => ?_) (fun f cdv A outer s H vs Q E hr h => ?_)
  · obtain ⟨v, ov, n, E, m, F, rfl, _⟩ := h
    rfl
  · obtain ⟨v, ov, n, E, m, F, rfl, hw, hg, n12, hw2, hg2, m12, hff, q⟩ := h
    refine ⟨_, (pss_cons (ps_set (i := 2) sc_law_folds_right.nd rfl (Or.inl rfl) (pe_cal C_first_fold hr (by decide) (by rfl) (pa_cons (pv 0) (pa_cons (pv 1) pa_nil))))
      (pss_cons (ps_if (pt_cmpR op_isN (pv 2) pe_non (nomark _)) (pss_one (ps_ret (pe_cmpR (neDK (K := K) rfl hr.units) (pv 0) (pv 1) (nomark _)))) pss_nil)
      (pss_cons (ps_if (pt_cmpR op_isnot_bl (pe_cal C_fold_good hr (by decide) (by rfl) (pa_cons (pv 0) (pa_cons (pv 1) (pa_cons (pv 2) pa_nil)))) pe_bl (nomark _)) (pss_one (ps_ret pe_bl)) pss_nil)
      (pss_one (ps_ret (pe_or (pe_cmpR op_isN (pe_cal C_shortest hr (by decide) (by rfl) (pa_cons (pv 0) pa_nil)) pe_non (nomark _)) (pe_one (pe_and (pe_cmpR op_notN (pe_cal C_shortest hr (by decide) (by rfl) (pa_cons (pv 1) pa_nil)) pe_non (nomark _)) (pe_one (pe_cmpR op_le (pe_cal C_shortest hr (by decide) (by rfl) (pa_cons (pv 1) pa_nil)) (pe_cal C_shortest hr (by decide) (by rfl) (pa_cons (pv 0) pa_nil)) (nomark _))))))))))), ?_⟩
    refine ⟨_, rfl, _, rfl, v, ov, n, E, m, F, rfl, hw, hg, n12, hw2, hg2, by omega, fun u H1 e1 hu => ?_⟩
    have hw' := hw.mono (Ex.t e1)
    have hw2' := hw2.mono (Ex.t e1)
    -- if fold is None
    refine ⟨_, rfl, rfl, _, rfl, ?_⟩
    rcases hu with ⟨r, hr2, hT⟩ | ⟨hn, rfl⟩
    · have hF := firstFold_fold hg hg2 hr2
      have hT0 := hT
      obtain ⟨rt, rfl, _⟩ := hT0
      refine iteF ?_
      refine ⟨_, rfl, _, rfl, _, rfl, v, ov, .ref rt, n, E, m, F, r, rfl, hw', hg, by omega, hw2', hg2, by omega, hT, hF, fun b H2 e2 hb => ?_⟩
      subst hb
      refine ⟨true, true, rfl, rfl, _, rfl, iteF ?_⟩
      have hw3 := hw'.mono (Ex.t e2)
      have hw23 := hw2'.mono (Ex.t e2)
      refine ⟨_, rfl, v, n, E, rfl, hw3, hg, by omega, fun u3 H3 e3 hu3 => ?_⟩
      subst hu3
      refine ⟨rfl, _, rfl, ?_⟩
      cases z : girth E with
      | none => exact iteT (q _ _ ((e1.trans e2).trans e3) rfl)
      | some s =>
        obtain ⟨s', l, hs'⟩ := girth_cover hg hg2 (hF.cover hg) z
        refine iteF ?_
        refine ⟨_, rfl, ov, m, F, rfl, hw23.mono (Ex.t e3), hg2, by omega, fun u4 H4 e4 hu4 => ?_⟩
        subst hu4
        refine ⟨rfl, _, rfl, ?_⟩
        rw [hs']
        refine iteT ?_
        refine ⟨_, rfl, ov, m, F, rfl, (hw23.mono (Ex.t e3)).mono (Ex.t e4), hg2, by omega, fun u5 H5 e5 hu5 => ?_⟩
        refine ⟨_, rfl, v, n, E, rfl, ((hw3.mono (Ex.t e3)).mono (Ex.t e4)).mono (Ex.t e5), hg, by omega, fun u6 H6 e6 hu6 => ?_⟩
        subst hu5
        subst hu6
        refine ⟨(s' : Int), (s : Int), by rw [hs']; rfl, by rw [z]; rfl, ?_⟩
        refine q _ _ ((((e1.trans e2).trans e3).trans e4).trans (e5.trans e6)) ?_
        exact congrArg V.bl (decide_eq_true (by omega))
    · have hnm : n ≠ m := fun z => by
        have := hff z
        rw [hn] at this
        cases this
      refine iteT ?_
      refine ⟨_, rfl, _, rfl, _, _, dp_W hw', dp_W hw2', shaped_W _ _, shaped_W _ _, ?_⟩
      rw [eqv_webs hnm]
      exact q _ _ e1 rfl
end
end Nsr
end
section
set_option Elab.async false
set_option linter.all false
set_option maxRecDepth 100000
set_option maxHeartbeats 8000000
set_option autoImplicit false
namespace Nsr
open PySem PySem.Spec PyProof.Rows L2
def sp_law (K : PySem.W.Frag) : Sp := fun vs H Q _ => ∃ (a : Addr) (ns : List Int), vs = [.ref a] ∧ SqL K H a (ns.map V.int) ∧ ns.length ≤ 63 ∧ ∀ H', Q (.bl true) H'
theorem cut_int {ns : List Int} {lo hi : Option Int} {x : V} (h : x ∈ cutV (ns.map V.int) lo hi) : ∃ i, x = V.int i := by
  obtain ⟨i, _, e⟩ := List.mem_map.mp (List.mem_of_mem_drop (List.mem_of_mem_take h))
  exact ⟨i, e.symm⟩
section
variable {P : Program} {w : World} {K : PySem.W.Frag} {mg : Str → Option Value} {base : Heap}
abbrev N_law : List Str := ["_law_script", "_law_cell", "_law_pen", "_law_web", "_law_small", "_law_other", "_law_sides"]
theorem sc_law : FnScope N_law ["_law_script"] (defScope x_law) := ⟨rfl, rfl, rfl, by decide +kernel, rfl, by decide +kernel, by decide +kernel⟩
theorem fun_ok {f : Addr} {fd : FuncData} {x : Str} {st : Stmt} {N ps : List Str} {k : Nat} {sp : Sp} (F : FunD K x x (defArgs st) (defBody st) (defScope st) [] [] f fd) (S : FnScope N ps (defScope st)) (len : ∀ vs H Q E, sp vs H Q E → vs.length = ps.length)
    (hbody : ∀ (f : Addr) (cdv : Value) (A : Around) (outer : List Env) (s : Shared) (H : Hp) (vs : List V) (Q : VK) (E : XK), Room k (A.deeper (envOfC x (defScope st) s.heap.objs.size f cdv)) → sp vs H Q E →
      ∃ t, PSs (cxOf CX0 P w K mg base N x (defScope st) f cdv A outer s H E).nox (defBody st) t ∧ t { nx := fun _ H' => Q .non H', rt := Q } (start N vs) H) : FnOk P w K mg base CX0 (k + 1) f fd ps sp :=
  F.ok S len fun cdv A outer s H vs Q E hr h => by
    obtain ⟨t, h1, h2⟩ := hbody f cdv A outer s H vs Q E hr h
    exact ⟨t, PSs.nox h1, h2⟩
theorem ok_law {f0 : Addr} {fd0 : FuncData} (F0 : FunD K "law" "law" (defArgs x_law) (defBody x_law) (defScope x_law) [] [] f0 fd0) (B : Free mg) (C_law_cell_at : Cal P w K mg base 1 "_law_cell_at" ["_law_script", "_law_k"] (sp_law_cell_at K)) (C_sides_of : Cal P w K mg base 5 "sides_of" ["web"] sp_sides_of) (C_renamed : Cal P w K mg base 3 "renamed" ["web", "names"] sp_renamed) (C_law_names_by : Cal P w K mg base 3 "_law_names_by" ["_law_pen", "_law_many"] sp_law_names_by) (C_shortest : Cal P w K mg base 4 "shortest" ["web"] sp_shortest) (C_sides_good : Cal P w K mg base 5 "sides_good" ["web", "thing"] sp_sides_good) (C_law_folds_right : Cal P w K mg base 17 "_law_folds_right" ["_law_web", "_law_other"] sp_law_folds_right) (C_first_fold : Cal P w K mg base 16 "first_fold" ["web", "other"] sp_first_fold) (C_doubled : Cal P w K mg base 3 "doubled" ["web"] sp_doubled) (C_law_web_by : Cal P w K mg base 4 "_law_web_by" ["_law_pen", "_law_most"] sp_law_web_by) (C_law_double_right : Cal P w K mg base 6 "_law_double_right" ["_law_web"] sp_law_double_right) (C_law_pen_of : Cal P w K mg base 1 "_law_pen_of" ["_law_cell"] sp_law_pen_of) : FnOk P w K mg base CX0 18 f0 fd0 ["_law_script"] (sp_law K) := by
  refine fun_ok F0 sc_law (fun vs H Q E h => ?_) (fun f cdv A outer s H vs Q E hr h => ?_)
  · obtain ⟨a, ns, rfl, _⟩ := h
    rfl
  · obtain ⟨a, ns, rfl, ha, hn, q⟩ := h
    refine ⟨_, (pss_cons (ps_for PassesOwn.never rfl (pi_listK (K := K) rfl (pe_op op_cat (pe_lst (pa_cons (pe_cal C_law_cell_at hr (by decide) (by rfl) (pa_cons (pv 0) (pa_cons pe_int pa_nil))) pa_nil)) (pe_slice sl_list (pv 0) (po_some pe_int) (po_some pe_int)))) (pg_name (i := 1) sc_law.nd rfl (Or.inl rfl)) (pss_cons (ps_set (i := 2) sc_law.nd rfl (Or.inl rfl) (pe_cal C_law_pen_of hr (by decide) (by rfl) (pa_cons (pv 1) pa_nil)))
      (pss_cons (ps_set (i := 3) sc_law.nd rfl (Or.inl rfl) (pe_cal C_law_web_by hr (by decide) (by rfl) (pa_cons (pv 2) (pa_cons pe_int pa_nil))))
      (pss_cons (ps_if (pt_not (pt_val (pe_cal C_law_double_right hr (by decide) (by rfl) (pa_cons (pv 3) pa_nil)))) (pss_one (ps_ret pe_bl)) pss_nil)
      (pss_cons (ps_set (i := 4) sc_law.nd rfl (Or.inl rfl) (pe_cal C_law_web_by hr (by decide) (by rfl) (pa_cons (pv 2) (pa_cons pe_int pa_nil))))
      (pss_cons (ps_set (i := 5) sc_law.nd rfl (Or.inl rfl) (pe_cal C_renamed hr (by decide) (by rfl) (pa_cons (pv 4) (pa_cons (pe_cal C_law_names_by hr (by decide) (by rfl) (pa_cons (pv 2) (pa_cons (pe_ix (ix_tupK (K := K) rfl) (pv 4) pe_int (fun _ _ => rfl)) pa_nil))) pa_nil))))
      (pss_cons (ps_if (PW.pt (pw_or (pt_not (pt_val (pe_cal C_law_folds_right hr (by decide) (by rfl) (pa_cons (pe_cal C_doubled hr (by decide) (by rfl) (pa_cons (pv 4) pa_nil)) (pa_cons (pv 4) pa_nil))))) (pw_or1 (pt_not (pt_val (pe_cal C_law_folds_right hr (by decide) (by rfl) (pa_cons (pv 4) (pa_cons (pv 4) pa_nil)))))))) (pss_one (ps_ret pe_bl)) pss_nil)
      (pss_cons (ps_if (PW.pt (pw_or (pt_cmpR op_isN (pe_cal C_first_fold hr (by decide) (by rfl) (pa_cons (pv 4) (pa_cons (pv 5) pa_nil))) pe_non (nomark _)) (pw_or1 (pt_not (pt_val (pe_cal C_law_folds_right hr (by decide) (by rfl) (pa_cons (pv 4) (pa_cons (pv 5) pa_nil)))))))) (pss_one (ps_ret pe_bl)) pss_nil)
      (pss_cons (ps_set (i := 6) sc_law.nd rfl (Or.inl rfl) (pe_cal C_sides_of hr (by decide) (by rfl) (pa_cons (pv 3) pa_nil)))
      (Evl.pss_cut (ps_if (PW.pt (pw_and (pt_cmpR op_notN (pv 6) pe_non (nomark _)) (pw_and1 (pt_cmpR op_isnot_bl (pe_cal C_sides_good hr (by decide) (by rfl) (pa_cons (pv 3) (pa_cons (pv 6) pa_nil))) pe_bl (nomark _))))) (pss_one (ps_ret pe_bl)) pss_nil)
      (Evl.pss_cut (ps_if (PW.pt (pw_and (pt_cmpR op_notN (pv 6) pe_non (nomark _)) (pw_and (pt_cmpR op_notN (pe_cal C_shortest hr (by decide) (by rfl) (pa_cons (pv 3) pa_nil)) pe_non (nomark _)) (pw_and1 (pt_cmpR op_eq (pe_op op_mod (pe_cal C_shortest hr (by decide) (by rfl) (pa_cons (pv 3) pa_nil)) pe_int) pe_int (nomark _)))))) (pss_one (ps_ret pe_bl)) pss_nil)
      (pss_one (ps_if (pt_cmpR op_ne (pe_cmpR op_isN (pv 6) pe_non (nomark _)) (pe_cmpR op_isN (pe_cal C_sides_of hr (by decide) (by rfl) (pa_cons (pe_cal C_renamed hr (by decide) (by rfl) (pa_cons (pv 3) (pa_cons (pe_cal C_law_names_by hr (by decide) (by rfl) (pa_cons (pv 2) (pa_cons (pe_ix (ix_tupK (K := K) rfl) (pv 3) pe_int (fun _ _ => rfl)) pa_nil))) pa_nil))) pa_nil)) pe_non (nomark _)) (nomark _)) (pss_one (ps_ret pe_bl)) pss_nil)))))))))))))
      (pss_one (ps_ret pe_bl))), ?_⟩
    have hcl := cutV_length (ns.map V.int) (some 1) (some 4)
    rw [List.length_map] at hcl
    refine ⟨_, rfl, a, ns, rfl, ha, fun c => ⟨by show 1 ≤ sizeLine; decide, fun l1 hl1 => ?_⟩⟩
    obtain ⟨e1, h1⟩ := new2 hl1 (.lst [.int c])
    refine ⟨_, rfl, _, rfl, _, rfl, a, ns.map V.int, rfl, Evl.ex_l e1 ha, fun l2 hl2 => ?_⟩
    obtain ⟨e2, h2⟩ := new2 hl2 (.lst (cutV (ns.map V.int) (some 1) (some 4)))
    refine ⟨l1, l2, _, _, rfl, rfl, e2 _ _ h1, h2, by show 1 + _ ≤ sizeLine; unfold sizeLine; omega, fun M hM => ?_⟩
    obtain ⟨e3, h3⟩ := new2 hM (.lst ([V.int c] ++ cutV (ns.map V.int) (some 1) (some 4)))
    generalize hxs : [V.int c] ++ cutV (ns.map V.int) (some 1) (some 4) = xs at h3 e3 ⊢
    have hint : ∀ x ∈ xs, ∃ i, x = V.int i := fun x hx => by
      rw [← hxs] at hx
      rcases List.mem_append.mp hx with hx | hx
      · exact ⟨c, List.mem_singleton.mp hx⟩
      · exact cut_int hx
    refine ⟨M, rfl, ⟨_, SqL.of h3⟩, ?_⟩
    refine for_list (K := K) (a := M) (xs := xs) (fun i σ' H' => ∃ y1 y2 y3 y4 y5 y6, σ' = [some (.ref a), y1, y2, y3, y4, y5, y6] ∧ H' M = some (.lst xs))
      ⟨_, _, _, _, _, _, rfl, h3⟩ (fun i σ' H' _ ⟨_, _, _, _, _, _, _, e⟩ => SqL.of e) (fun i x σ' H1 hx ⟨y1, y2, y3, y4, y5, y6, es, hm1⟩ => ?_) (fun σ' H' _ => q _)
    subst es
    obtain ⟨ci, rfl⟩ := hint x (List.mem_of_getElem? hx)
    -- pen
    refine ⟨_, rfl, ci, rfl, fun p H2 hp e2 pen2 => ?_⟩
    have pM : M ≠ p := ne_of_none hm1 hp
    have hm2 := e2 _ _ hm1
    -- web
    refine ⟨_, rfl, p, 8, rfl, pen2, by decide, by decide, fun v H3 n E e3 pen3 n0 n8 hw hg => ?_⟩
    have hm3 := e3 _ _ pM hm2
    -- double_right
    refine ⟨_, rfl, v, n, E, rfl, hw, hg, n0, n8, fun u4 H4 e4 hu4 => ?_⟩
    subst hu4
    have hm4 := e4 _ _ hm3
    have hw4 := hw.mono (Ex.t e4)
    -- the test of double_right
    refine ⟨true, rfl, iteF ?_⟩
    have pen4 := pen3.ex e4
    -- small
    refine ⟨_, rfl, p, 5, rfl, pen4, by decide, by decide, fun vs H5 k F e5 pen5 k0 k5 hs5 gF => ?_⟩
    have hm5 := e5 _ _ pM hm4
    have hw5 := hw4.mono (e5.t pen4)
    -- other
    obtain ⟨sa, st, rfl, hsa, _⟩ := id hs5
    refine ⟨_, rfl, _, rfl, _, rfl, sa, _, 0, _, rfl, rfl, SqT.of hsa, rfl, p, k, rfl, pen5, by omega, fun nv H6 fl e6 pen6 nam hnv => ?_⟩
    have hm6 := e6 _ _ pM hm5
    have hw6 := hw5.mono (e6.t pen5)
    have hs6 := hs5.mono (e6.t pen5)
    refine ⟨.ref sa, nv, k, F, fl, rfl, hs6, gF, by omega, hnv, nam, fun ov H7 R e7 hR ho7 => ?_⟩
    have gR := ren_good gF nam hR
    have hm7 := e7 _ _ hm6
    have pen7 := pen6.ex e7
    have hw7 := hw6.mono (Ex.t e7)
    have hs7 := hs6.mono (Ex.t e7)
    have fI : (firstFold k k F F).isSome = true := firstFold_is gF gF fold_id
    have fR : (firstFold k k F R).isSome = true := firstFold_is gF gR (fold_ren gF nam hR)
    -- folds_right(doubled(small), small)
    refine ⟨_, rfl, .ref sa, k, F, rfl, hs7, gF, by omega, fun dv H8 D e8 hD hWD => ?_⟩
    have hs8 := hs7.mono (Ex.t e8)
    refine ⟨_, rfl, dv, .ref sa, 2 * k, D, k, F, rfl, hWD, dbl_good gF hD, by omega, hs8, gF, by omega, fun z => absurd z (by omega), fun u9 H9 e9 hu9 => ?_⟩
    subst hu9
    have hs9 := hs8.mono (Ex.t e9)
    refine ⟨true, rfl, iteF ?_⟩
    refine ⟨_, rfl, _, rfl, .ref sa, .ref sa, k, F, k, F, rfl, hs9, gF, by omega, hs9, gF, by omega, fun _ => fI, fun u10 H10 e10 hu10 => ?_⟩
    subst hu10
    refine ⟨true, rfl, iteF ?_⟩
    have e710 := (e8.trans e9).trans e10
    have hm10 := e710 _ _ hm7
    have pen10 := pen7.ex e710
    have hw10 := hw7.mono (Ex.t e710)
    have hs10 := hs7.mono (Ex.t e710)
    have ho10 := ho7.mono (Ex.t e710)
    -- first_fold(small, other) is None
    refine ⟨_, rfl, _, rfl, .ref sa, ov, k, F, k, R, rfl, hs10, gF, by omega, ho10, gR, by omega, fun u11 H11 e11 hu11 => ?_⟩
    have h11 : ∃ rt, u11 = .ref rt := by
      rcases hu11 with ⟨r, _, rt, h, _⟩ | ⟨h, _⟩
      · exact ⟨rt, h⟩
      · rw [h] at fR
        cases fR
    obtain ⟨rt, rfl⟩ := h11
    refine ⟨rfl, _, rfl, iteF ?_⟩
    refine ⟨_, rfl, _, rfl, .ref sa, ov, k, F, k, R, rfl, hs10.mono (Ex.t e11), gF, by omega, ho10.mono (Ex.t e11), gR, by omega, fun _ => fR, fun u12 H12 e12 hu12 => ?_⟩
    subst hu12
    refine ⟨true, rfl, iteF ?_⟩
    have e1012 := e11.trans e12
    have hm12 := e1012 _ _ hm10
    have pen12 := pen10.ex e1012
    have hw12 := hw10.mono (Ex.t e1012)
    -- sides
    refine ⟨_, rfl, v, n, E, rfl, hw12, hg, by omega, fun sv H13 e13 hsv => ?_⟩
    have hm13 := e13 _ _ hm12
    have pen13 := pen12.ex e13
    have hw13 := hw12.mono (Ex.t e13)
    refine ⟨fun σ' H' => σ' = [some (.ref a), some (.int ci), some (.ref p), some v, some (.ref sa), some ov, some sv] ∧ Ex H13 H', ?_, fun σ' H14 ⟨es, e14⟩ => ?_⟩
    · rcases hsv with ⟨hun, hT⟩ | ⟨_, rfl⟩
      · obtain ⟨s, rfl, _⟩ := id hT
        refine ⟨_, rfl, rfl, _, rfl, iteT ?_⟩
        refine ⟨_, rfl, _, rfl, v, .ref s, n, E, rfl, hw13, hg, by omega, hT, hun, fun b H14 e14 hb => ?_⟩
        subst hb
        exact ⟨true, true, rfl, rfl, _, rfl, iteF ⟨rfl, e14⟩⟩
      · exact ⟨_, rfl, rfl, _, rfl, iteF ⟨rfl, Evl.Ex.refl _⟩⟩
    subst es
    have hw14 := hw13.mono (Ex.t e14)
    refine ⟨fun σ' H' => σ' = [some (.ref a), some (.int ci), some (.ref p), some v, some (.ref sa), some ov, some sv] ∧ Ex H14 H', ?_, fun σ' H15 ⟨es, e15⟩ => ?_⟩
    · rcases hsv with ⟨hun, hT⟩ | ⟨_, rfl⟩
      · obtain ⟨s, rfl, _⟩ := id hT
        refine ⟨_, rfl, rfl, _, rfl, iteT ?_⟩
        refine ⟨_, rfl, v, n, E, rfl, hw14, hg, by omega, fun u H15 e15 hu => ?_⟩
        subst hu
        refine ⟨rfl, _, rfl, ?_⟩
        cases z : girth E with
        | none => exact iteF ⟨rfl, e15⟩
        | some g =>
          refine iteT ?_
          refine ⟨_, rfl, v, n, E, rfl, hw14.mono (Ex.t e15), hg, by omega, fun u H16 e16 hu => ?_⟩
          subst hu
          rw [z]
          obtain ⟨cc, hcc⟩ := (unlike_iff hg).mp hun
          have ev := hcc.even (n := n) z
          refine ⟨(g : Int), 2, rfl, rfl, by show (0 : Int) < 2; decide, rfl, _, rfl, ?_⟩
          rw [decide_eq_false (show ¬ ((fun i j => V.int (i % j)) (g : Int) 2 = V.int 1) from fun z => by injection z with z; omega)]
          exact iteF ⟨rfl, e15.trans e16⟩
      · exact ⟨_, rfl, rfl, _, rfl, iteF ⟨rfl, Evl.Ex.refl _⟩⟩
    subst es
    have e1315 := e14.trans e15
    have hm15 := e1315 _ _ hm13
    have pen15 := pen13.ex e1315
    have hw15 := hw13.mono (Ex.t e1315)
    -- the last test
    obtain ⟨wa, wt, rfl, hwa, _⟩ := id hw15
    refine ⟨_, rfl, rfl, _, rfl, _, rfl, _, rfl, wa, _, 0, _, rfl, rfl, SqT.of hwa, rfl, p, n, rfl, pen15, by omega, fun nv2 H16 fl2 e16 pen16 nam2 hnv2 => ?_⟩
    have hm16 := e16 _ _ pM hm15
    have hw16 := hw15.mono (e16.t pen15)
    refine ⟨.ref wa, nv2, n, E, fl2, rfl, hw16, hg, n8, hnv2, nam2, fun rv H17 R2 e17 hR2 hr17 => ?_⟩
    have gR2 := ren_good hg nam2 hR2
    refine ⟨rv, n, R2, rfl, hr17, gR2, by omega, fun sv2 H18 e18 hsv2 => ?_⟩
    have hm18 := e18 _ _ (e17 _ _ hm16)
    have hb : decide (sv = V.non) = decide (sv2 = V.non) := by
      have hun2 : unlikeB E (side n E) = unlikeB R2 (side n R2) := by
        rw [Bool.eq_iff_iff, unlike_iff hg, unlike_iff gR2, ren_col hg nam2 hR2]
      rcases hsv with ⟨h, z, rfl, _⟩ | ⟨h, rfl⟩ <;> rcases hsv2 with ⟨h2, z2, rfl, _⟩ | ⟨h2, rfl⟩
      · rfl
      · rw [h, h2] at hun2
        cases hun2
      · rw [h, h2] at hun2
        cases hun2
      · rfl
    refine ⟨rfl, rfl, _, rfl, ?_⟩
    rw [hb, decide_eq_true rfl]
    exact iteF ⟨_, _, _, _, _, _, rfl, hm18⟩
end
end Nsr
end
section
set_option Elab.async false
set_option linter.all false
set_option maxRecDepth 100000
set_option maxHeartbeats 4000000
namespace Nsr
open PySem PySem.Spec PyProof.Rows L2
def mkD (x : Str) (st : Stmt) : He.DefD := ⟨(x, none), x, x, defArgs st, defBody st, defScope st, [], []⟩
def fn : List He.DefD := [mkD "is_whole" x_is_whole, mkD "is_upto" x_is_upto, mkD "web_with" x_web_with, mkD "is_place" x_is_place, mkD "check_place" x_check_place, mkD "nears_of" x_nears_of, mkD "near_of" x_near_of, mkD "fars" x_fars, mkD "pieces_of" x_pieces_of, mkD "even_by" x_even_by, mkD "ring_through" x_ring_through, mkD "shortest" x_shortest, mkD "names_good" x_names_good, mkD "named_by" x_named_by, mkD "renamed" x_renamed, mkD "sides_by" x_sides_by, mkD "are_unlike" x_are_unlike, mkD "sides_of" x_sides_of, mkD "sides_good" x_sides_good, mkD "double_by" x_double_by, mkD "doubled" x_doubled, mkD "doubled_ring" x_doubled_ring, mkD "place_goes" x_place_goes, mkD "fold_good" x_fold_good, mkD "may_go" x_may_go, mkD "fold_from" x_fold_from, mkD "first_fold" x_first_fold, mkD "_law_cell_at" x_law_cell_at, mkD "_law_next" x_law_next, mkD "_law_pen_of" x_law_pen_of, mkD "_law_draw" x_law_draw, mkD "_law_named" x_law_named, mkD "_law_names_by" x_law_names_by, mkD "_law_turned" x_law_turned, mkD "_law_shape" x_law_shape, mkD "_law_web_by" x_law_web_by, mkD "_law_double_right" x_law_double_right, mkD "_law_folds_right" x_law_folds_right, mkD "law" x_law]
def fa : List He.Fa := [.glo "is_whole", .glo "is_upto", .glo "web_with", .glo "is_place", .glo "check_place", .glo "nears_of", .glo "near_of", .glo "fars", .glo "pieces_of", .glo "even_by", .glo "ring_through", .glo "shortest", .glo "names_good", .glo "named_by", .glo "renamed", .glo "sides_by", .glo "are_unlike", .glo "sides_of", .glo "sides_good", .glo "double_by", .glo "doubled", .glo "doubled_ring", .glo "place_goes", .glo "fold_good", .glo "may_go", .glo "fold_from", .glo "first_fold", .glo "_law_cell_at", .glo "_law_next", .glo "_law_pen_of", .glo "_law_draw", .glo "_law_named", .glo "_law_names_by", .glo "_law_turned", .glo "_law_shape", .glo "_law_web_by"]
def fb : List He.Fa := [.glo "_law_double_right", .glo "_law_folds_right", .glo "law", .int "MOST_PLACES" 16, .int "MOST_FOLDED" 12, .free "isinstance", .free "tuple", .free "int", .free "bool", .free "len", .free "min", .free "max", .free "sorted", .free "set", .free "all", .free "range", .free "list"]
def namesA : List PySem.Str := ["RingError", "NoPlace", "TooGreat", "MOST_PLACES", "MOST_FOLDED", "is_whole", "is_upto", "web_with", "is_place", "check_place", "nears_of", "near_of", "fars", "pieces_of", "even_by", "ring_through", "shortest", "names_good", "named_by", "renamed", "sides_by", "are_unlike", "sides_of", "sides_good", "double_by", "doubled", "doubled_ring", "place_goes", "fold_good", "may_go"]
def namesB : List PySem.Str := ["fold_from", "first_fold", "_law_cell_at", "_law_next", "_law_pen_of", "_law_draw", "_law_named", "_law_names_by", "_law_turned", "_law_shape", "_law_web_by", "_law_double_right", "_law_folds_right"]
def names : List PySem.Str := namesA ++ namesB
def fab : List He.Fa := fa ++ fb
abbrev R : PySem.W.OpenRow := PySem.W.OpenLaw.row PySem.Challenge.rw_noshortring_k65_whole_doubles_and_folds
abbrev hk : PySem.W.Hook := He.hookD 4 fab fn
def ob (s : PySem.W.SharedT) : He.AlD := He.obsDG 4 fab fn (HandSHeadRun.getT s)
theorem ob_eq (s : PySem.W.SharedT) : ob s = hk.obs s.abs := He.obsDG_eq (HandSHeadRun.getT_eq s)
set_option maxHeartbeats 0 in
theorem run (w : World) : HandSHeadRun.RunEq R (PySem.W.view R.prog [47]) hk ob 3000 names w := by
  intro os
  kernel_rfl
end Nsr
end
section
set_option Elab.async false
set_option linter.all false
set_option maxRecDepth 100000
set_option maxHeartbeats 8000000
set_option autoImplicit false
namespace Nsr
open PySem PySem.Spec PyProof.Rows L2
theorem facts {P : Program} {w : World} {K : PySem.W.Frag} {h : Heap} {mg : Str → Option Value} {f : Addr} (X : K.In h) (G : h.Ns mainGlobals mg) (hfa : mg ("law" : Str) = some (.ref f)) (c : He.SaysD fab fn K) :
    ∃ fd : FuncData, (∀ (s : Shared) (v : Value), BindsTo s fd ⟨[v], []⟩ [("_law_script", v)]) ∧ ∀ base : Heap, K.In base → base.Ns mainGlobals mg → FnOk P w K mg base CX0 18 f fd ["_law_script"] (sp_law K) := by
  obtain ⟨d_is_whole, F_is_whole⟩ := c.def_ 0 (d := mkD "is_whole" x_is_whole) rfl
  have D_is_whole : DefAt K mg "is_whole" x_is_whole ["thing"] := ⟨_, d_is_whole, F_is_whole, He.glo_ok X G (c.fact 0 (f := .glo "is_whole") rfl), FunD.bindsN (ps := ["thing"]) F_is_whole fun _ _ _ _ _ _ us hl => match us, hl with | [_], _ => rfl⟩
  obtain ⟨d_is_upto, F_is_upto⟩ := c.def_ 1 (d := mkD "is_upto" x_is_upto) rfl
  have D_is_upto : DefAt K mg "is_upto" x_is_upto ["thing", "low", "high"] := ⟨_, d_is_upto, F_is_upto, He.glo_ok X G (c.fact 1 (f := .glo "is_upto") rfl), FunD.bindsN (ps := ["thing", "low", "high"]) F_is_upto fun _ _ _ _ _ _ us hl => match us, hl with | [_, _, _], _ => rfl⟩
  obtain ⟨d_web_with, F_web_with⟩ := c.def_ 2 (d := mkD "web_with" x_web_with) rfl
  have D_web_with : DefAt K mg "web_with" x_web_with ["many", "pairs"] := ⟨_, d_web_with, F_web_with, He.glo_ok X G (c.fact 2 (f := .glo "web_with") rfl), FunD.bindsN (ps := ["many", "pairs"]) F_web_with fun _ _ _ _ _ _ us hl => match us, hl with | [_, _], _ => rfl⟩
  obtain ⟨d_is_place, F_is_place⟩ := c.def_ 3 (d := mkD "is_place" x_is_place) rfl
  have D_is_place : DefAt K mg "is_place" x_is_place ["web", "thing"] := ⟨_, d_is_place, F_is_place, He.glo_ok X G (c.fact 3 (f := .glo "is_place") rfl), FunD.bindsN (ps := ["web", "thing"]) F_is_place fun _ _ _ _ _ _ us hl => match us, hl with | [_, _], _ => rfl⟩
  obtain ⟨d_check_place, F_check_place⟩ := c.def_ 4 (d := mkD "check_place" x_check_place) rfl
  have D_check_place : DefAt K mg "check_place" x_check_place ["web", "place"] := ⟨_, d_check_place, F_check_place, He.glo_ok X G (c.fact 4 (f := .glo "check_place") rfl), FunD.bindsN (ps := ["web", "place"]) F_check_place fun _ _ _ _ _ _ us hl => match us, hl with | [_, _], _ => rfl⟩
  obtain ⟨d_nears_of, F_nears_of⟩ := c.def_ 5 (d := mkD "nears_of" x_nears_of) rfl
  have D_nears_of : DefAt K mg "nears_of" x_nears_of ["web"] := ⟨_, d_nears_of, F_nears_of, He.glo_ok X G (c.fact 5 (f := .glo "nears_of") rfl), FunD.bindsN (ps := ["web"]) F_nears_of fun _ _ _ _ _ _ us hl => match us, hl with | [_], _ => rfl⟩
  obtain ⟨d_near_of, F_near_of⟩ := c.def_ 6 (d := mkD "near_of" x_near_of) rfl
  have D_near_of : DefAt K mg "near_of" x_near_of ["web", "place"] := ⟨_, d_near_of, F_near_of, He.glo_ok X G (c.fact 6 (f := .glo "near_of") rfl), FunD.bindsN (ps := ["web", "place"]) F_near_of fun _ _ _ _ _ _ us hl => match us, hl with | [_, _], _ => rfl⟩
  obtain ⟨d_fars, F_fars⟩ := c.def_ 7 (d := mkD "fars" x_fars) rfl
  have D_fars : DefAt K mg "fars" x_fars ["web", "place"] := ⟨_, d_fars, F_fars, He.glo_ok X G (c.fact 7 (f := .glo "fars") rfl), FunD.bindsN (ps := ["web", "place"]) F_fars fun _ _ _ _ _ _ us hl => match us, hl with | [_, _], _ => rfl⟩
  obtain ⟨d_pieces_of, F_pieces_of⟩ := c.def_ 8 (d := mkD "pieces_of" x_pieces_of) rfl
  have D_pieces_of : DefAt K mg "pieces_of" x_pieces_of ["web"] := ⟨_, d_pieces_of, F_pieces_of, He.glo_ok X G (c.fact 8 (f := .glo "pieces_of") rfl), FunD.bindsN (ps := ["web"]) F_pieces_of fun _ _ _ _ _ _ us hl => match us, hl with | [_], _ => rfl⟩
  obtain ⟨d_even_by, F_even_by⟩ := c.def_ 9 (d := mkD "even_by" x_even_by) rfl
  have D_even_by : DefAt K mg "even_by" x_even_by ["web"] := ⟨_, d_even_by, F_even_by, He.glo_ok X G (c.fact 9 (f := .glo "even_by") rfl), FunD.bindsN (ps := ["web"]) F_even_by fun _ _ _ _ _ _ us hl => match us, hl with | [_], _ => rfl⟩
  obtain ⟨d_ring_through, F_ring_through⟩ := c.def_ 10 (d := mkD "ring_through" x_ring_through) rfl
  have D_ring_through : DefAt K mg "ring_through" x_ring_through ["web", "tie"] := ⟨_, d_ring_through, F_ring_through, He.glo_ok X G (c.fact 10 (f := .glo "ring_through") rfl), FunD.bindsN (ps := ["web", "tie"]) F_ring_through fun _ _ _ _ _ _ us hl => match us, hl with | [_, _], _ => rfl⟩
  obtain ⟨d_shortest, F_shortest⟩ := c.def_ 11 (d := mkD "shortest" x_shortest) rfl
  have D_shortest : DefAt K mg "shortest" x_shortest ["web"] := ⟨_, d_shortest, F_shortest, He.glo_ok X G (c.fact 11 (f := .glo "shortest") rfl), FunD.bindsN (ps := ["web"]) F_shortest fun _ _ _ _ _ _ us hl => match us, hl with | [_], _ => rfl⟩
  obtain ⟨d_names_good, F_names_good⟩ := c.def_ 12 (d := mkD "names_good" x_names_good) rfl
  have D_names_good : DefAt K mg "names_good" x_names_good ["web", "thing"] := ⟨_, d_names_good, F_names_good, He.glo_ok X G (c.fact 12 (f := .glo "names_good") rfl), FunD.bindsN (ps := ["web", "thing"]) F_names_good fun _ _ _ _ _ _ us hl => match us, hl with | [_, _], _ => rfl⟩
  obtain ⟨d_named_by, F_named_by⟩ := c.def_ 13 (d := mkD "named_by" x_named_by) rfl
  have D_named_by : DefAt K mg "named_by" x_named_by ["web", "names"] := ⟨_, d_named_by, F_named_by, He.glo_ok X G (c.fact 13 (f := .glo "named_by") rfl), FunD.bindsN (ps := ["web", "names"]) F_named_by fun _ _ _ _ _ _ us hl => match us, hl with | [_, _], _ => rfl⟩
  obtain ⟨d_renamed, F_renamed⟩ := c.def_ 14 (d := mkD "renamed" x_renamed) rfl
  have D_renamed : DefAt K mg "renamed" x_renamed ["web", "names"] := ⟨_, d_renamed, F_renamed, He.glo_ok X G (c.fact 14 (f := .glo "renamed") rfl), FunD.bindsN (ps := ["web", "names"]) F_renamed fun _ _ _ _ _ _ us hl => match us, hl with | [_, _], _ => rfl⟩
  obtain ⟨d_sides_by, F_sides_by⟩ := c.def_ 15 (d := mkD "sides_by" x_sides_by) rfl
  have D_sides_by : DefAt K mg "sides_by" x_sides_by ["web"] := ⟨_, d_sides_by, F_sides_by, He.glo_ok X G (c.fact 15 (f := .glo "sides_by") rfl), FunD.bindsN (ps := ["web"]) F_sides_by fun _ _ _ _ _ _ us hl => match us, hl with | [_], _ => rfl⟩
  obtain ⟨d_are_unlike, F_are_unlike⟩ := c.def_ 16 (d := mkD "are_unlike" x_are_unlike) rfl
  have D_are_unlike : DefAt K mg "are_unlike" x_are_unlike ["web", "sides"] := ⟨_, d_are_unlike, F_are_unlike, He.glo_ok X G (c.fact 16 (f := .glo "are_unlike") rfl), FunD.bindsN (ps := ["web", "sides"]) F_are_unlike fun _ _ _ _ _ _ us hl => match us, hl with | [_, _], _ => rfl⟩
  obtain ⟨d_sides_of, F_sides_of⟩ := c.def_ 17 (d := mkD "sides_of" x_sides_of) rfl
  have D_sides_of : DefAt K mg "sides_of" x_sides_of ["web"] := ⟨_, d_sides_of, F_sides_of, He.glo_ok X G (c.fact 17 (f := .glo "sides_of") rfl), FunD.bindsN (ps := ["web"]) F_sides_of fun _ _ _ _ _ _ us hl => match us, hl with | [_], _ => rfl⟩
  obtain ⟨d_sides_good, F_sides_good⟩ := c.def_ 18 (d := mkD "sides_good" x_sides_good) rfl
  have D_sides_good : DefAt K mg "sides_good" x_sides_good ["web", "thing"] := ⟨_, d_sides_good, F_sides_good, He.glo_ok X G (c.fact 18 (f := .glo "sides_good") rfl), FunD.bindsN (ps := ["web", "thing"]) F_sides_good fun _ _ _ _ _ _ us hl => match us, hl with | [_, _], _ => rfl⟩
  obtain ⟨d_double_by, F_double_by⟩ := c.def_ 19 (d := mkD "double_by" x_double_by) rfl
  have D_double_by : DefAt K mg "double_by" x_double_by ["web"] := ⟨_, d_double_by, F_double_by, He.glo_ok X G (c.fact 19 (f := .glo "double_by") rfl), FunD.bindsN (ps := ["web"]) F_double_by fun _ _ _ _ _ _ us hl => match us, hl with | [_], _ => rfl⟩
  obtain ⟨d_doubled, F_doubled⟩ := c.def_ 20 (d := mkD "doubled" x_doubled) rfl
  have D_doubled : DefAt K mg "doubled" x_doubled ["web"] := ⟨_, d_doubled, F_doubled, He.glo_ok X G (c.fact 20 (f := .glo "doubled") rfl), FunD.bindsN (ps := ["web"]) F_doubled fun _ _ _ _ _ _ us hl => match us, hl with | [_], _ => rfl⟩
  obtain ⟨d_doubled_ring, F_doubled_ring⟩ := c.def_ 21 (d := mkD "doubled_ring" x_doubled_ring) rfl
  have D_doubled_ring : DefAt K mg "doubled_ring" x_doubled_ring ["web"] := ⟨_, d_doubled_ring, F_doubled_ring, He.glo_ok X G (c.fact 21 (f := .glo "doubled_ring") rfl), FunD.bindsN (ps := ["web"]) F_doubled_ring fun _ _ _ _ _ _ us hl => match us, hl with | [_], _ => rfl⟩
  obtain ⟨d_place_goes, F_place_goes⟩ := c.def_ 22 (d := mkD "place_goes" x_place_goes) rfl
  have D_place_goes : DefAt K mg "place_goes" x_place_goes ["nears", "others", "thing", "place"] := ⟨_, d_place_goes, F_place_goes, He.glo_ok X G (c.fact 22 (f := .glo "place_goes") rfl), FunD.bindsN (ps := ["nears", "others", "thing", "place"]) F_place_goes fun _ _ _ _ _ _ us hl => match us, hl with | [_, _, _, _], _ => rfl⟩
  obtain ⟨d_fold_good, F_fold_good⟩ := c.def_ 23 (d := mkD "fold_good" x_fold_good) rfl
  have D_fold_good : DefAt K mg "fold_good" x_fold_good ["web", "other", "thing"] := ⟨_, d_fold_good, F_fold_good, He.glo_ok X G (c.fact 23 (f := .glo "fold_good") rfl), FunD.bindsN (ps := ["web", "other", "thing"]) F_fold_good fun _ _ _ _ _ _ us hl => match us, hl with | [_, _, _], _ => rfl⟩
  obtain ⟨d_may_go, F_may_go⟩ := c.def_ 24 (d := mkD "may_go" x_may_go) rfl
  have D_may_go : DefAt K mg "may_go" x_may_go ["nears", "others", "begun"] := ⟨_, d_may_go, F_may_go, He.glo_ok X G (c.fact 24 (f := .glo "may_go") rfl), FunD.bindsN (ps := ["nears", "others", "begun"]) F_may_go fun _ _ _ _ _ _ us hl => match us, hl with | [_, _, _], _ => rfl⟩
  obtain ⟨d_fold_from, F_fold_from⟩ := c.def_ 25 (d := mkD "fold_from" x_fold_from) rfl
  have D_fold_from : DefAt K mg "fold_from" x_fold_from ["web", "nears", "others", "begun"] := ⟨_, d_fold_from, F_fold_from, He.glo_ok X G (c.fact 25 (f := .glo "fold_from") rfl), FunD.bindsN (ps := ["web", "nears", "others", "begun"]) F_fold_from fun _ _ _ _ _ _ us hl => match us, hl with | [_, _, _, _], _ => rfl⟩
  obtain ⟨d_first_fold, F_first_fold⟩ := c.def_ 26 (d := mkD "first_fold" x_first_fold) rfl
  have D_first_fold : DefAt K mg "first_fold" x_first_fold ["web", "other"] := ⟨_, d_first_fold, F_first_fold, He.glo_ok X G (c.fact 26 (f := .glo "first_fold") rfl), FunD.bindsN (ps := ["web", "other"]) F_first_fold fun _ _ _ _ _ _ us hl => match us, hl with | [_, _], _ => rfl⟩
  obtain ⟨d_law_cell_at, F_law_cell_at⟩ := c.def_ 27 (d := mkD "_law_cell_at" x_law_cell_at) rfl
  have D_law_cell_at : DefAt K mg "_law_cell_at" x_law_cell_at ["_law_script", "_law_k"] := ⟨_, d_law_cell_at, F_law_cell_at, He.glo_ok X G (c.fact 27 (f := .glo "_law_cell_at") rfl), FunD.bindsN (ps := ["_law_script", "_law_k"]) F_law_cell_at fun _ _ _ _ _ _ us hl => match us, hl with | [_, _], _ => rfl⟩
  obtain ⟨d_law_next, F_law_next⟩ := c.def_ 28 (d := mkD "_law_next" x_law_next) rfl
  have D_law_next : DefAt K mg "_law_next" x_law_next ["_law_seed"] := ⟨_, d_law_next, F_law_next, He.glo_ok X G (c.fact 28 (f := .glo "_law_next") rfl), FunD.bindsN (ps := ["_law_seed"]) F_law_next fun _ _ _ _ _ _ us hl => match us, hl with | [_], _ => rfl⟩
  obtain ⟨d_law_pen_of, F_law_pen_of⟩ := c.def_ 29 (d := mkD "_law_pen_of" x_law_pen_of) rfl
  have D_law_pen_of : DefAt K mg "_law_pen_of" x_law_pen_of ["_law_cell"] := ⟨_, d_law_pen_of, F_law_pen_of, He.glo_ok X G (c.fact 29 (f := .glo "_law_pen_of") rfl), FunD.bindsN (ps := ["_law_cell"]) F_law_pen_of fun _ _ _ _ _ _ us hl => match us, hl with | [_], _ => rfl⟩
  obtain ⟨d_law_draw, F_law_draw⟩ := c.def_ 30 (d := mkD "_law_draw" x_law_draw) rfl
  have D_law_draw : DefAt K mg "_law_draw" x_law_draw ["_law_pen", "_law_many"] := ⟨_, d_law_draw, F_law_draw, He.glo_ok X G (c.fact 30 (f := .glo "_law_draw") rfl), FunD.bindsN (ps := ["_law_pen", "_law_many"]) F_law_draw fun _ _ _ _ _ _ us hl => match us, hl with | [_, _], _ => rfl⟩
  obtain ⟨d_law_named, F_law_named⟩ := c.def_ 31 (d := mkD "_law_named" x_law_named) rfl
  have D_law_named : DefAt K mg "_law_named" x_law_named ["_law_web", "_law_names"] := ⟨_, d_law_named, F_law_named, He.glo_ok X G (c.fact 31 (f := .glo "_law_named") rfl), FunD.bindsN (ps := ["_law_web", "_law_names"]) F_law_named fun _ _ _ _ _ _ us hl => match us, hl with | [_, _], _ => rfl⟩
  obtain ⟨d_law_names_by, F_law_names_by⟩ := c.def_ 32 (d := mkD "_law_names_by" x_law_names_by) rfl
  have D_law_names_by : DefAt K mg "_law_names_by" x_law_names_by ["_law_pen", "_law_many"] := ⟨_, d_law_names_by, F_law_names_by, He.glo_ok X G (c.fact 32 (f := .glo "_law_names_by") rfl), FunD.bindsN (ps := ["_law_pen", "_law_many"]) F_law_names_by fun _ _ _ _ _ _ us hl => match us, hl with | [_, _], _ => rfl⟩
  obtain ⟨d_law_turned, F_law_turned⟩ := c.def_ 33 (d := mkD "_law_turned" x_law_turned) rfl
  have D_law_turned : DefAt K mg "_law_turned" x_law_turned ["_law_many", "_law_steps"] := ⟨_, d_law_turned, F_law_turned, He.glo_ok X G (c.fact 33 (f := .glo "_law_turned") rfl), FunD.bindsN (ps := ["_law_many", "_law_steps"]) F_law_turned fun _ _ _ _ _ _ us hl => match us, hl with | [_, _], _ => rfl⟩
  obtain ⟨d_law_shape, F_law_shape⟩ := c.def_ 34 (d := mkD "_law_shape" x_law_shape) rfl
  have D_law_shape : DefAt K mg "_law_shape" x_law_shape ["_law_pen", "_law_most"] := ⟨_, d_law_shape, F_law_shape, He.glo_ok X G (c.fact 34 (f := .glo "_law_shape") rfl), FunD.bindsN (ps := ["_law_pen", "_law_most"]) F_law_shape fun _ _ _ _ _ _ us hl => match us, hl with | [_, _], _ => rfl⟩
  obtain ⟨d_law_web_by, F_law_web_by⟩ := c.def_ 35 (d := mkD "_law_web_by" x_law_web_by) rfl
  have D_law_web_by : DefAt K mg "_law_web_by" x_law_web_by ["_law_pen", "_law_most"] := ⟨_, d_law_web_by, F_law_web_by, He.glo_ok X G (c.fact 35 (f := .glo "_law_web_by") rfl), FunD.bindsN (ps := ["_law_pen", "_law_most"]) F_law_web_by fun _ _ _ _ _ _ us hl => match us, hl with | [_, _], _ => rfl⟩
  obtain ⟨d_law_double_right, F_law_double_right⟩ := c.def_ 36 (d := mkD "_law_double_right" x_law_double_right) rfl
  have D_law_double_right : DefAt K mg "_law_double_right" x_law_double_right ["_law_web"] := ⟨_, d_law_double_right, F_law_double_right, He.glo_ok X G (c.fact 36 (f := .glo "_law_double_right") rfl), FunD.bindsN (ps := ["_law_web"]) F_law_double_right fun _ _ _ _ _ _ us hl => match us, hl with | [_], _ => rfl⟩
  obtain ⟨d_law_folds_right, F_law_folds_right⟩ := c.def_ 37 (d := mkD "_law_folds_right" x_law_folds_right) rfl
  have D_law_folds_right : DefAt K mg "_law_folds_right" x_law_folds_right ["_law_web", "_law_other"] := ⟨_, d_law_folds_right, F_law_folds_right, He.glo_ok X G (c.fact 37 (f := .glo "_law_folds_right") rfl), FunD.bindsN (ps := ["_law_web", "_law_other"]) F_law_folds_right fun _ _ _ _ _ _ us hl => match us, hl with | [_, _], _ => rfl⟩
  obtain ⟨d_law, F_law⟩ := c.def_ 38 (d := mkD "law" x_law) rfl
  have B : Free mg := ⟨He.free_ok X G (c.fact 41 (f := .free "isinstance") rfl), He.free_ok X G (c.fact 42 (f := .free "tuple") rfl), He.free_ok X G (c.fact 43 (f := .free "int") rfl), He.free_ok X G (c.fact 44 (f := .free "bool") rfl), He.free_ok X G (c.fact 45 (f := .free "len") rfl), He.free_ok X G (c.fact 46 (f := .free "min") rfl), He.free_ok X G (c.fact 47 (f := .free "max") rfl), He.free_ok X G (c.fact 48 (f := .free "sorted") rfl), He.free_ok X G (c.fact 49 (f := .free "set") rfl), He.free_ok X G (c.fact 50 (f := .free "all") rfl), He.free_ok X G (c.fact 51 (f := .free "range") rfl), He.free_ok X G (c.fact 52 (f := .free "list") rfl)⟩
  obtain ⟨t_MOST_PLACES, h_MOST_PLACES⟩ := He.int_ok X G (c.fact 39 (f := .int "MOST_PLACES" 16) rfl)
  obtain ⟨t_MOST_FOLDED, h_MOST_FOLDED⟩ := He.int_ok X G (c.fact 40 (f := .int "MOST_FOLDED" 12) rfl)
  have e := hfa.symm.trans (He.glo_ok X G (c.fact 38 (f := .glo "law") rfl))
  cases e
  have b := FunD.bindsA (ps := ["_law_script"]) F_law fun _ _ _ _ _ _ us hl => match us, hl with | [_], _ => rfl
  refine ⟨d_law, fun s v => b s [v] rfl, fun base _ _ => ?_⟩
  have C_law_cell_at : Cal P w K mg base 1 "_law_cell_at" ["_law_script", "_law_k"] (sp_law_cell_at K) := ok_law_cell_at D_law_cell_at B
  have C_are_unlike : Cal P w K mg base 1 "are_unlike" ["web", "sides"] sp_are_unlike := ok_are_unlike D_are_unlike B
  have C_nears_of : Cal P w K mg base 1 "nears_of" ["web"] sp_nears_of := ok_nears_of D_nears_of B
  have C_fars : Cal P w K mg base 2 "fars" ["web", "place"] sp_fars := ok_fars D_fars B C_nears_of
  have C_pieces_of : Cal P w K mg base 3 "pieces_of" ["web"] sp_pieces_of := ok_pieces_of D_pieces_of B C_fars
  have C_sides_by : Cal P w K mg base 4 "sides_by" ["web"] sp_sides_by := ok_sides_by D_sides_by B C_pieces_of C_fars
  have C_sides_of : Cal P w K mg base 5 "sides_of" ["web"] sp_sides_of := ok_sides_of D_sides_of B C_are_unlike C_sides_by
  have C_web_with : Cal P w K mg base 1 "web_with" ["many", "pairs"] sp_web_with := ok_web_with D_web_with B
  have C_named_by : Cal P w K mg base 2 "named_by" ["web", "names"] sp_named_by := ok_named_by D_named_by B C_web_with
  have C_is_whole : Cal P w K mg base 1 "is_whole" ["thing"] sp_is_whole := ok_is_whole D_is_whole B
  have C_names_good : Cal P w K mg base 2 "names_good" ["web", "thing"] sp_names_good := ok_names_good D_names_good B C_is_whole
  have C_renamed : Cal P w K mg base 3 "renamed" ["web", "names"] sp_renamed := ok_renamed D_renamed B C_named_by C_names_good
  have C_law_next : Cal P w K mg base 1 "_law_next" ["_law_seed"] sp_law_next := ok_law_next D_law_next B
  have C_law_draw : Cal P w K mg base 2 "_law_draw" ["_law_pen", "_law_many"] sp_law_draw := ok_law_draw D_law_draw B C_law_next
  have C_law_names_by : Cal P w K mg base 3 "_law_names_by" ["_law_pen", "_law_many"] sp_law_names_by := ok_law_names_by D_law_names_by B C_law_draw
  have C_ring_through : Cal P w K mg base 3 "ring_through" ["web", "tie"] sp_ring_through := ok_ring_through D_ring_through B C_fars
  have C_shortest : Cal P w K mg base 4 "shortest" ["web"] sp_shortest := ok_shortest D_shortest B C_ring_through
  have C_is_upto : Cal P w K mg base 2 "is_upto" ["thing", "low", "high"] sp_is_upto := ok_is_upto D_is_upto B C_is_whole
  have C_sides_good : Cal P w K mg base 5 "sides_good" ["web", "thing"] sp_sides_good := ok_sides_good D_sides_good B C_sides_by C_are_unlike C_is_upto
  have C_place_goes : Cal P w K mg base 1 "place_goes" ["nears", "others", "thing", "place"] sp_place_goes := ok_place_goes D_place_goes B
  have C_fold_good : Cal P w K mg base 2 "fold_good" ["web", "other", "thing"] sp_fold_good := ok_fold_good D_fold_good B C_place_goes C_nears_of C_is_whole
  have C_may_go : Cal P w K mg base 1 "may_go" ["nears", "others", "begun"] sp_may_go := ok_may_go D_may_go B
  have C_fold_from : Cal P w K mg base 15 "fold_from" ["web", "nears", "others", "begun"] sp_fold_fromA := ok_fold_from D_fold_from B C_may_go
  have C_first_fold : Cal P w K mg base 16 "first_fold" ["web", "other"] sp_first_fold := ok_first_fold D_first_fold B C_fold_from C_nears_of h_MOST_FOLDED
  have C_law_folds_right : Cal P w K mg base 17 "_law_folds_right" ["_law_web", "_law_other"] sp_law_folds_right := ok_law_folds_right D_law_folds_right B C_shortest C_fold_good C_first_fold
  have C_double_by : Cal P w K mg base 2 "double_by" ["web"] sp_double_by := ok_double_by D_double_by B C_web_with
  have C_doubled : Cal P w K mg base 3 "doubled" ["web"] sp_doubled := ok_doubled D_doubled B C_double_by h_MOST_PLACES
  have C_law_named : Cal P w K mg base 1 "_law_named" ["_law_web", "_law_names"] sp_law_named := ok_law_named D_law_named B
  have C_law_turned : Cal P w K mg base 1 "_law_turned" ["_law_many", "_law_steps"] sp_law_turned := ok_law_turned D_law_turned B
  have C_law_shape : Cal P w K mg base 3 "_law_shape" ["_law_pen", "_law_most"] sp_law_shape := ok_law_shape D_law_shape B C_law_draw C_law_turned
  have C_law_web_by : Cal P w K mg base 4 "_law_web_by" ["_law_pen", "_law_most"] sp_law_web_by := ok_law_web_by D_law_web_by B C_law_named C_law_names_by C_law_draw C_law_shape
  have C_is_place : Cal P w K mg base 3 "is_place" ["web", "thing"] sp_is_place := ok_is_place D_is_place B C_is_upto
  have C_check_place : Cal P w K mg base 4 "check_place" ["web", "place"] sp_check_place := ok_check_place D_check_place B C_is_place
  have C_near_of : Cal P w K mg base 5 "near_of" ["web", "place"] sp_near_of := ok_near_of D_near_of B C_nears_of C_check_place
  have C_even_by : Cal P w K mg base 2 "even_by" ["web"] sp_even_by := ok_even_by D_even_by B C_nears_of
  have C_doubled_ring : Cal P w K mg base 5 "doubled_ring" ["web"] sp_doubled_ring := ok_doubled_ring D_doubled_ring B C_shortest C_double_by
  have C_law_double_right : Cal P w K mg base 6 "_law_double_right" ["_law_web"] sp_law_double_right := ok_law_double_right D_law_double_right B C_fold_good C_shortest C_near_of C_even_by C_doubled_ring C_sides_of C_doubled
  have C_law_pen_of : Cal P w K mg base 1 "_law_pen_of" ["_law_cell"] sp_law_pen_of := ok_law_pen_of D_law_pen_of B
  exact ok_law F_law B C_law_cell_at C_sides_of C_renamed C_law_names_by C_shortest C_sides_good C_law_folds_right C_first_fold C_doubled C_law_web_by C_law_double_right C_law_pen_of
end Nsr
open PySem PySem.W PySem.Calls PyProof.Rows
theorem PySem.Challenge.cw_noshortring_k65_whole_doubles_and_folds_holds : PySem.Challenge.rw_noshortring_k65_whole_doubles_and_folds.Holds := by
  w_on; o_law
  refine HandSHeadRun.head_any (r := OpenLaw.row PySem.Challenge.rw_noshortring_k65_whole_doubles_and_folds) (q := view (OpenLaw.row PySem.Challenge.rw_noshortring_k65_whole_doubles_and_folds).prog [47]) (H := Nsr.hk) (ob := Nsr.ob) (M := 3000) (loose := Nsr.names) (d := HandSHeadRun.topDef (OpenLaw.row PySem.Challenge.rw_noshortring_k65_whole_doubles_and_folds).prog 47) (kwd := []) Nsr.ob_eq
    (by kernel_rfl) (fun s => by kernel_rfl) Nsr.run (by kernel_rfl) (by kernel_rfl) (by kernel_rfl) (by rfl) (by first | assumption | decide +kernel) (by decide +kernel) ⟨rfl, rfl, rfl, rfl, rfl, by decide +kernel⟩ ?hw ?hc
  case hw => w_witness2
  case hc =>
    refine L2.walk_ofE (l := PySem.Challenge.rw_noshortring_k65_whole_doubles_and_folds) (n := 63) (k := 18) (x := "_law_script") (CX := L2.CX0) rfl (by decide) (by kernel_rfl) ⟨rfl, by decide, by decide⟩ ?F (fun _ _ _ _ z => z)
    intro w mg fa h Y G hmg0
    obtain ⟨K, KX, c⟩ := Y
    have hmg : mg ("law" : PySem.Str) = some (.ref fa) := by
      have e : (HandSHeadRun.topDef (OpenLaw.row PySem.Challenge.rw_noshortring_k65_whole_doubles_and_folds).prog 47).name = ("law" : PySem.Str) := by kernel_rfl
      rw [← e]
      exact hmg0
    obtain ⟨fd, hb, hF⟩ := Nsr.facts (P := (PySem.Challenge.rw_noshortring_k65_whole_doubles_and_folds).prog) (w := w) KX G hmg c
    exact ⟨K, fd, Nsr.sp_law K, KX, hb, fun H a ns hl _ hS => ⟨a, ns, rfl, hS, hl, fun _ => rfl⟩, hF⟩
end
