import PyProof.Rows.All
import Wide.All
import OpenK.AllK
import Wide.FinOn
import PyProof.RulesMatch
import KE.KUnpackStar
import KE.KSortTupG
import KE.GoesMore
import HandS.ForMost
import HandS.CallLocal
import HandS.IsInst
import HandS.Deep
import HandS.DictComp
import HandS.Zip
import HandS.TupAny
import HandS.TupMul
import HandS.Style
import HandS.More
import HandS.Wide
import PySem.Challenge.RW_blameplaces_k09_whole_places_and_jumps
set_option Elab.async false
set_option linter.all false
set_option maxRecDepth 100000
set_option maxHeartbeats 4000000
/-! Own rules over the hand layer: match upon texts, enumerate of a tuple, a star target, in over tuples of data, sorted of a tuple of tuples, calls by name. -/
namespace B9
open PySem PySem.Spec PyProof.Rows L2

/-! ### match upon texts -/
/-- the pattern takes just these texts -/
def PatOk (X : Cx) (p : Pattern) (ws : List Str) : Prop :=
  ∀ (pins : List (Addr × Obj)) (s : Shared) (σ : L2.St) (H : Hp) (z : Str) (v : Value), Inv X pins σ H s → RelV (.str z) v →
    wpAny (model X.prog X.w) X.A (matchPattern p X.env v) (fun r s' => Inv X pins σ H s' ∧ r = if z ∈ ws then some [] else none) X.xe s
structure MC (X : Cx) (cases : List MatchCase) (t : Str → TS) : Prop where
  run : ∀ (first : Bool) (pins : List (Addr × Obj)) (s : Shared) (σ : L2.St) (H : Hp) (D : Ends) (z : Str) (v : Value), Inv X pins σ H s → RelV (.str z) v → t z D σ H →
    wpAny (model X.prog X.w) X.A (matchCases cases X.env v first) (SP X pins D) X.xe s
section
variable {X : Cx}
theorem pat_val {x : Str} {j : Nat} {p p' : Pos} : PatOk X (.MatchValue (.Constant (.str x) j p) p') [x] := by
  intro pins s σ H z v I r
  obtain ⟨t, rfl⟩ := r
  refine wpAny_matchPattern_Value ?_
  refine Calls.Constant_str ?_
  refine eq_str ?_
  refine wpAny_truthy_bool ?_
  have I1 := I.tok (s.toks + 1)
  by_cases e : z = x
  · have hb : (z == x) = true := beq_iff_eq.mpr e
    rw [hb]
    exact ⟨I1, by rw [if_pos (List.mem_singleton.mpr e)]⟩
  · have hb : (z == x) = false := beq_eq_false_iff_ne.mpr e
    rw [hb]
    exact ⟨I1, by rw [if_neg (fun m => e (List.mem_singleton.mp m))]⟩
theorem pat_or2 {p q : Pattern} {ws us : List Str} {pos : Pos} (hp : PatOk X p ws) (hq : PatOk X q us) (hn : namesOfAll ([p, q].take 1) = [] := by rfl) : PatOk X (.MatchOr [p, q] pos) (ws ++ us) := by
  intro pins s σ H z v I r
  refine wpAny_matchPattern_Or (wpAny_matchFirst_cons (thn (hp pins s σ H z v I r) fun o s1 ⟨I1, e1⟩ => ?_))
  subst e1
  by_cases m : z ∈ ws
  · rw [if_pos m]
    show Inv X pins σ H s1 ∧ _
    refine ⟨I1, ?_⟩
    rw [if_pos (List.mem_append_left _ m), hn]
    rfl
  · rw [if_neg m]
    refine wpAny_matchFirst_cons (thn (hq pins s1 σ H z v I1 r) fun o s2 ⟨I2, e2⟩ => ?_)
    subst e2
    by_cases m2 : z ∈ us
    · rw [if_pos m2]
      show Inv X pins σ H s2 ∧ _
      refine ⟨I2, ?_⟩
      rw [if_pos (List.mem_append_right _ m2), hn]
      rfl
    · rw [if_neg m2]
      refine wpAny_matchFirst_nil ?_
      show Inv X pins σ H s2 ∧ _
      refine ⟨I2, ?_⟩
      rw [if_neg (fun h => (List.mem_append.mp h).elim m m2)]
theorem mc_nil : MC X [] fun _ => tNext := ⟨fun first pins s σ H D z v I r h => wpAny_matchCases_nil ⟨σ, H, I, h⟩⟩
theorem mc_cons {p : Pattern} {ws : List Str} {body : List Stmt} {rest : List MatchCase} {t : TS} {u : Str → TS} (hp : PatOk X p ws) (hb : PSs X body t) (hr : MC X rest u) :
    MC X (⟨p, none, body⟩ :: rest) fun z D σ H => if z ∈ ws then t D σ H else u z D σ H := by
  refine ⟨fun first pins s σ H D z v I r h => ?_⟩
  refine wpAny_matchCases_cons (thn (hp pins s σ H z v I r) fun o s1 ⟨I1, e1⟩ => ?_)
  subst e1
  by_cases m : z ∈ ws
  · rw [if_pos m] at h
    rw [if_pos m]
    exact wpAny_assignInOrder_none (hb.run pins s1 σ H D I1 h)
  · rw [if_neg m] at h
    rw [if_neg m]
    exact hr.run false pins s1 σ H D z v I1 r h
def tMatch (te : TE) (t : Str → TS) : TS := fun D σ H => te σ H fun x H1 => ∃ z, x = .str z ∧ t z D σ H1
theorem ps_match {e : Expr} {cases : List MatchCase} {pos : Pos} {te : TE} {t : Str → TS} (he : PE X e te) (hc : MC X cases t) : PS X (.Match e cases pos) (tMatch te t) := by
  refine ⟨fun pins s σ H D I h => ?_⟩
  refine wpAny_Match (thn (he.run pins s σ H _ I h) fun v s1 ⟨x, H1, I1, r1, z, ez, q1⟩ => ?_)
  subst ez
  exact hc.run true pins s1 σ H1 D z v I1 r1 q1
end

/-! ### in, not in: data within a tuple of data -/
def rInT (K : PySem.W.Frag) (neg : Bool) : R2 := fun x y H Q => ∃ d ds, Dp K H x d ∧ Dp K H y (.tuple ds) ∧ SeqAt.shaped d = true ∧ SeqAt.shaped (.tuple ds) = true ∧
  Q (.bl (if neg then !(ds.any fun z => PyData.eqv z d) else ds.any fun z => PyData.eqv z d)) H
theorem room_inT {A : Around} {d : PyData} {ds : List PyData} (h : SeqAt.shaped d = true) (hu : A.units + 65 < cLine) : A.units + 1 + min (PyData.depthAll ds) d.depth < cLine := by
  have := SeqAt.depth_of_shaped h
  omega
section
variable {X : Cx}
theorem op_inT (hu : X.A.units + 65 < cLine) : OpR X (compareOp .In) (rInT X.K false) := by
  intro pins s σ H x y v u Q I rx ry h
  obtain ⟨d, ds, hd, he, sd, se, q⟩ := h
  obtain ⟨as, r1⟩ := Dp.reads I d x v hd rx
  obtain ⟨bs, r2⟩ := Dp.reads I (.tuple ds) y u he ry
  exact SeqAt.in_tuple_reads r2 r1 (SeqAt.canLay_of_shaped se) (SeqAt.canLay_of_shaped sd) (room_inT sd hu) ⟨.bl _, H, I, rfl, q⟩
theorem op_notInT (hu : X.A.units + 65 < cLine) : OpR X (compareOp .NotIn) (rInT X.K true) := by
  intro pins s σ H x y v u Q I rx ry h
  obtain ⟨d, ds, hd, he, sd, se, q⟩ := h
  obtain ⟨as, r1⟩ := Dp.reads I d x v hd rx
  obtain ⟨bs, r2⟩ := Dp.reads I (.tuple ds) y u he ry
  exact SeqAt.notIn_tuple_reads r2 r1 (SeqAt.canLay_of_shaped se) (SeqAt.canLay_of_shaped sd) (room_inT sd hu) ⟨.bl _, H, I, rfl, q⟩
end

/-! ### calls by name -/
section
variable (P : Program) (w : World) (K : PySem.W.Frag) (mg : Str → Option Value) (base : Heap)
/-- at f stands a def that keeps the promise -/
def Hl (k : Nat) (f : Addr) (sp : Sp) : Prop := ∃ fd ps, FnOk P w K mg base CX0 k f fd ps sp ∧ PySem.W.keepIn K (.ref f) = true ∧ Binds K fd ps []
/-- the name holds such a def -/
def Has (k : Nat) (x : Str) (sp : Sp) : Prop := ∃ f, mg x = some (.ref f) ∧ Hl P w K mg base k f sp
end
section
variable {P : Program} {w : World} {K : PySem.W.Frag} {mg : Str → Option Value} {base : Heap}
theorem Hl.imp {j k : Nat} {f : Addr} {sp sp' : Sp} (h : Hl P w K mg base j f sp) (hk : j ≤ k) (hs : ∀ vs H Q E, sp' vs H Q E → sp vs H Q E) : Hl P w K mg base k f sp' :=
  let ⟨fd, ps, a, b, c⟩ := h
  ⟨fd, ps, (a.mono hk).imp hs, b, c⟩
theorem Has.imp {j k : Nat} {x : Str} {sp sp' : Sp} (h : Has P w K mg base j x sp) (hk : j ≤ k) (hs : ∀ vs H Q E, sp' vs H Q E → sp vs H Q E) : Has P w K mg base k x sp' :=
  let ⟨f, g, l⟩ := h
  ⟨f, g, l.imp hk hs⟩
end
def tPc (sp : Sp) (t : TA) : TE := fun σ H Q => t σ H fun vs H1 => sp vs H1 Q E0
section
variable {X : Cx} {j k : Nat} {sp : Sp} {x : Str} {p pos : Pos} {e : Expr} {es : List Expr} {t : TA}
theorem pc (h : Has X.prog X.w X.K X.mg X.base j x sp) (hr : Room k X.A) (ha : PA X (e :: es) t) (hk : j ≤ k := by omega) (hg : Gl X x := by rfl) (hdb : (x == ("__debug__" : Str)) = false := by decide)
    (he : starEach (e :: es) X.env = (false, eval e X.env) :: starEach es X.env := by rfl) (hpl : (backTo pos (starEach es X.env)).any (·.1) = false := by rfl) :
    PE X (.Call (.Name x p) (e :: es) [] pos) (tPc sp t) := by
  obtain ⟨f, hm, fd, ps, F, hkp, hb⟩ := h
  have q := pe_call (pos := pos) (p := p) F (hr.mono hk) hg hm hkp hb .nil (pass0 (X := X)) ha hdb he hpl
  refine ⟨fun pins s σ H Q I h => q.run pins s σ H Q I ?_⟩
  have e0 : (fun (vs : List V) (H1 : Hp) => sp (vs ++ []) H1 Q E0) = fun vs H1 => sp vs H1 Q E0 := by
    funext vs H1
    rw [List.append_nil]
  show t σ H (fun vs H1 => sp (vs ++ []) H1 Q E0)
  rw [e0]
  exact h
theorem pc0 (h : Has X.prog X.w X.K X.mg X.base j x sp) (hr : Room k X.A) (hk : j ≤ k := by omega) (hg : Gl X x := by rfl) (hdb : (x == ("__debug__" : Str)) = false := by decide) :
    PE X (.Call (.Name x p) [] [] pos) (fun σ H Q => sp [] H Q E0) := by
  obtain ⟨f, hm, fd, ps, F, hkp, hb⟩ := h
  have q := pe_call0 (pos := pos) (p := p) F (hr.mono hk) hg hm hkp hb .nil (pass0 (X := X)) hdb
  exact ⟨fun pins s σ H Q I h => q.run pins s σ H Q I h⟩
def tPcv (P : Program) (w : World) (K : PySem.W.Frag) (mg : Str → Option Value) (base : Heap) (k i : Nat) (t : TA) : TE := fun σ H Q => ∃ f sp, σ[i]? = some (some (.ref f)) ∧ Hl P w K mg base k f sp ∧ t σ H fun vs H1 => sp vs H1 Q E0
/-- a call of what slot i holds -/
theorem pcv (i : Nat) (hr : Room k X.A) (ha : PA X (e :: es) t) (hN : X.N[i]? = some x := by rfl) (hv : Vis X.env.scope x := by first | exact Or.inl rfl | exact Or.inr (Or.inl rfl) | exact Or.inr (Or.inr rfl))
    (hdb : (x == ("__debug__" : Str)) = false := by decide) (hcd : (x == ("__classdict__" : Str)) = false := by decide)
    (he : starEach (e :: es) X.env = (false, eval e X.env) :: starEach es X.env := by rfl) (hpl : (backTo pos (starEach es X.env)).any (·.1) = false := by rfl) :
    PE X (.Call (.Name x p) (e :: es) [] pos) (tPcv X.prog X.w X.K X.mg X.base k i t) := by
  refine ⟨fun pins s σ H Q I h => ?_⟩
  obtain ⟨f, sp, hs, ⟨fd, ps, F, hkp, hb⟩, ht⟩ := h
  refine (pe_callL (i := i) (f := f) (sp := sp) (dvs := []) (E := E0) (p := p) (pos := pos) F hr hN hv hkp hb .nil (pass0 (X := X)) ha hdb hcd he hpl).run pins s σ H Q I ⟨hs, ?_⟩
  have e0 : (fun (vs : List V) (H1 : Hp) => sp (vs ++ []) H1 Q E0) = fun vs H1 => sp vs H1 Q E0 := by
    funext vs H1
    rw [List.append_nil]
  show t σ H (fun vs H1 => sp (vs ++ []) H1 Q E0)
  rw [e0]
  exact ht
end

/-! ### enumerate of a tuple -/
def IteT (K : PySem.W.Frag) (a : Addr) : It :=
  ⟨fun i H => ∃ (xs : List V) (x : V), SqT K H a xs ∧ xs[i]? = some x,
   fun i H v H' => ∃ T x, v = .ref T ∧ H T = none ∧ H' = upd H T (.tup [.int (i : Nat), x]) ∧ ∀ xs, SqT K H a xs → xs[i]? = some x,
   fun i H => ∃ xs : List V, SqT K H a xs ∧ xs.length ≤ i⟩
theorem turnT_enum {P : Program} {w : World} {K : PySem.W.Frag} {elts : List Expr} {kk : Nat} {tpos : Pos} (a e it : Addr) :
    Turn P w K (.Tuple elts kk tpos) (IteT K a) [e, it] e (fun i h => (∃ old, IsEnum h e it ((i : Nat) : Int) old) ∧ h.IsTupleIter it a i ∧ e ≠ it ∧ e ≠ a ∧ a ≠ it) where
  mem := by simp
  obj := fun i h st b hb => by
    obtain ⟨⟨old, he⟩, ⟨o, ho, hc, hd⟩, _⟩ := st
    have e' : b = e ∨ b = it := by simpa using hb
    rcases e' with z | z
    · rw [z]; exact ⟨_, he, fun v q => nomatch q⟩
    · rw [z]; exact ⟨o, ho, fun v q => by rw [hd] at q; cases q⟩
  keep := fun i h h' st k => let ⟨⟨old, he⟩, hi, hne⟩ := st; ⟨⟨old, k e (by simp) _ he⟩, hi.at fun o q => k it (by simp) o q, hne⟩
  item := by
    intro X hP hw hK hc i pins s σ H E I hf st hg
    subst hP hw hK
    obtain ⟨⟨old, he⟩, hit, hne, hea, hai⟩ := st
    obtain ⟨xs, x, hq, hx⟩ := hg
    obtain ⟨its, rv, p, hz⟩ := I.tuple hq
    have hel : e < s.heap.objs.size := Heap.lt_size he
    have hil : it < s.heap.objs.size := by obtain ⟨_, q, _⟩ := hit; exact Heap.lt_size q
    have hlt : i < its.toArray.size := by
      have h1 := (List.getElem?_eq_some_iff.mp hx).1
      have h2 := rv.length
      simp only [List.size_toArray]
      omega
    have Dr := Draws.tuple (prog := X.prog) (w := X.w) (A := X.A.in1) (show X.A.in1.handled = none from I.ok.hd hc) it a hai its.toArray
    refine wpAny_pyNext_enum_itemD Dr he ⟨hit, (show s.heap.IsTuple a its.toArray from p)⟩ hlt hne (by simp only [List.mem_cons, List.not_mem_nil, or_false]; exact fun z => z.elim hne hea) fun u h' tk hu ho hit' hT hsz hk => ?_
    have ru : RelV x u := by
      obtain ⟨u', hu', r'⟩ := rv.get hx
      have e1 : its[i]? = some u := by simpa using hu
      rw [hu'] at e1
      cases e1
      exact r'
    refine ⟨_, rfl, wpAny_letOwnedTupleGo_enum (s := { s with heap := h', toks := tk + 1 }) ho fun h'' he' sb => ?_⟩
    have hT2 : h''.get? s.heap.objs.size = some { cls := .type "tuple", data := .seq #[.int i tk, u] } := (sb.2 _ (Nat.ne_of_gt hel)).trans hT
    have new : ObjOk X.prog X.w (upd H s.heap.objs.size (.tup [.int (i : Nat), x])) h'' s.heap.objs.size (.tup [.int (i : Nat), x]) :=
      ⟨by show 2 ≤ sizeLine; decide, [.int i tk, u], .cons ⟨_, rfl⟩ (.cons ru .nil), ⟨_, hT2, rfl, _, rfl⟩⟩
    have I1 : Inv X pins σ (upd H s.heap.objs.size (.tup [.int (i : Nat), x])) { s with heap := h'', toks := tk + 1 } :=
      I.turnedNew (ch := [e, it]) (fun b ob hb q => (sb.2 b (fun z => hb (by simp [z]))).trans (hk b ob (fun z => hb (by simp [z])) (fun z => hb (by simp [z])) q)) hf (Nat.le_refl _) new
    refine ⟨.ref s.heap.objs.size, _, I1, rfl, ⟨_, x, rfl, I.hok.fresh (Nat.le_refl _), rfl, fun ys hy => by rw [I.tuple_inj hy hq]; exact hx⟩, ⟨⟨u, ?_⟩, hit'.1.at fun o q => (sb.2 it (Ne.symm hne)).trans q, hne, hea, hai⟩, fun b hb => ?_⟩
    · have e1 : ((i + 1 : Nat) : Int) = (i : Int) + 1 := by omega
      rw [e1]; exact he'
    · have hb' : b < s.heap.objs.size := by
        have e' : b = e ∨ b = it := by simpa using hb
        rcases e' with z | z
        · rw [z]; exact hel
        · rw [z]; exact hil
      rw [upd_ne (Nat.ne_of_lt hb')]
      exact (hf b hb).1
  done := by
    intro X hP hw hK hc i pins s σ H E I hf st hg
    subst hP hw hK
    obtain ⟨⟨old, he⟩, hit, hne, hea, hai⟩ := st
    obtain ⟨xs, hq, hx⟩ := hg
    obtain ⟨its, rv, p, hz⟩ := I.tuple hq
    obtain ⟨f0, f1, f2, f3, f4, f5⟩ := hf it (by simp)
    have hl := rv.length
    have hT : s.TypeIs (.ref e) "enumerate" := ⟨_, he, rfl⟩
    unfold pyNext
    refine wpAny_bind (wpAny_attempt (wpAny_callSpecial?_slot (name := Str.ofString "__next__") hT F.slot_enumerate_next
      (wpAny_call_entry F.slot_enumerate_next hT F.entry_enumerate_next ?_ (F.args_enumerate_next_1 _))))
    show wpAny _ _ (field (.ref e) 2 >>= _) _ _ _
    refine wpAny_bind (wpAny_field he rfl (x := .ref it) rfl ?_)
    refine wpAny_bind (wpAny_nextOf_tuple_end (show X.A.in1.handled = none from I.ok.hd hc) hit (show s.heap.IsTuple a its.toArray from p) (by simp; omega) fun h' x eb hx' => ?_)
    obtain ⟨o, ho, hc'⟩ := hx'
    refine wpAny_bind (wpAny_isInstance (T := "StopIteration") (b := true) ⟨o, ho, hc'⟩ isSubtype_stop ?_)
    exact wpAny_pure ⟨rfl, I.turned (t' := s.toks) (fun b o hb q => eb b o hb q) f0 f1 f3 f4 f5⟩
  self := fun A i s Q E st h => let ⟨⟨_, he⟩, _⟩ := st; wpAny_pyIter_enum he h
end B9

namespace B9
open PySem PySem.Spec PyProof.Rows L2
open RZ (ItzT pi_zipA iZipA)
open AutoSeq1 (wpAny_loadPart')

/-! ### enumerate of a tuple: its making, the loop -/
theorem meets_enumT (l : Addr) (items : Array Value) (n : Nat) (dct : Option Addr) (sl : Array (Option Value)) :
    Meets (Builtin.«enumerate.__new__» ⟨[.type "enumerate", .ref l], []⟩) (fun _ R s => s.heap.get? l = some { cls := .type "tuple", dict := dct, data := .seq items n, slots := sl } ∧
      R (.ok (.ret (.ref (s.heap.push { cls := .type "tuple_iterator", data := .fields #[.ref l, .int 0 0] }).objs.size)))
        { s with heap := (s.heap.push { cls := .type "tuple_iterator", data := .fields #[.ref l, .int 0 0] }).push { cls := .type "enumerate", data := .fields #[.none, .bool false, .ref s.heap.objs.size, rawInt 0, .none, .none] } }) :=
  .of_wp fun prog w A R s h => by
    obtain ⟨hp, g, d, tk, os⟩ := s
    obtain ⟨hl, h⟩ := h
    have hsub := sub_enumerate
    have hL : Heap.IsTuple (Shared.heap ⟨hp, g, d, tk, os⟩) l items := ⟨_, hl, rfl, n, rfl⟩
    wp_walk using wpAny_pyIter_tuple hL
    refine wpAny_stack_any fun st => wpAny_pure ?_
    split
    · rename_i c _ _ _ _ _
      cases (c == Value.type "enumerate")
      · wp_walk using wpAny_pyIter_tuple hL
        exact ⟨_, rfl, h⟩
      · wp_walk using wpAny_pyIter_tuple hL
        exact ⟨_, rfl, h⟩
    · wp_walk using wpAny_pyIter_tuple hL
      exact ⟨_, rfl, h⟩
section
variable {prog : Program} {w : World} {A : Around} {E : Value → Shared → Prop} {s : Shared}
theorem call_enumT {l : Addr} {items : Array Value} {Q : Value → Shared → Prop} (hL : s.heap.IsTuple l items)
    (h : ∀ h', IsEnum h' (s.heap.objs.size + 1) s.heap.objs.size 0 .none → h'.IsTupleIter s.heap.objs.size l 0 →
      (∀ b o, s.heap.get? b = some o → h'.get? b = some o) → Q (.ref (s.heap.objs.size + 1)) { s with heap := h' }) :
    wpAny (model prog w) A (call (.type "enumerate") [.ref l]) Q E s := by
  obtain ⟨⟨c, dct, dt, sl⟩, hl, hc, n, hd⟩ := hL
  replace hc : c = .type "tuple" := hc
  replace hd : dt = .seq items n := hd
  subst hc hd
  refine callType_new F.called_enumerate (by decide) (F.typeCall_enumerate_1 _) (F.newCall_enumerate_1 _) (fun obj => F.args_object_init_2 obj _) F.entry_enumerate_new
    (meets_enumT l items n dct sl) ⟨hl, ?_⟩
  have hz : (s.heap.push { cls := .type "tuple_iterator", data := .fields #[.ref l, .int 0 0] }).objs.size = s.heap.objs.size + 1 := Heap.size_push ..
  show _ ∧ _
  rw [hz]
  have he : IsEnum ((s.heap.push { cls := .type "tuple_iterator", data := .fields #[.ref l, .int 0 0] }).push
      { cls := .type "enumerate", data := .fields #[.none, .bool false, .ref s.heap.objs.size, rawInt 0, .none, .none] }) (s.heap.objs.size + 1) s.heap.objs.size 0 .none := by
    have q := Heap.get?_push_size (s.heap.push { cls := .type "tuple_iterator", data := .fields #[.ref l, .int 0 0] })
      (o := { cls := .type "enumerate", data := .fields #[.none, .bool false, .ref s.heap.objs.size, rawInt 0, .none, .none] }) rfl
    rw [hz] at q
    exact q
  exact ⟨⟨_, he, rfl⟩, h _ he ⟨_, Heap.get?_push_of_some _ (Heap.get?_push_size _ rfl), rfl, rfl⟩ fun b o x => Heap.get?_push_of_some _ (Heap.get?_push_of_some _ x)⟩
end
def iEnumT (K : PySem.W.Frag) (ta : TA) : TI := fun σ H R => ta σ H fun vs H1 => ∃ a xs, vs = [.ref a] ∧ SqT K H1 a xs ∧ R (IteT K a) H1
theorem pi_enumT {X : Cx} {e : Expr} {ta : TA} {p pos tpos : Pos} {elts : List Expr} {kk : Nat} (hg : Gl X "enumerate") (hm : X.mg "enumerate" = none) (ha : PA X [e] ta) (hs : starEach [e] X.env = [(false, eval e X.env)] := by rfl) :
    PI X (.Tuple elts kk tpos) (.Call (.Name "enumerate" p) [e] [] pos) (iEnumT X.K ta) := by
  refine ⟨fun pins s σ H R I h => ?_⟩
  refine Call_ (ld_blt I hg hm boot_enumerate (PyProof.Rows.callWith_type1 (thn (ha.run pos pins s σ H _ I h) fun us s1 ⟨vs, H1, I1, r1, q1⟩ => ?_) hs rfl))
  obtain ⟨a, xs, ex, hq, q⟩ := q1
  subst ex
  cases r1 with
  | cons r rr =>
    cases rr
    cases r
    obtain ⟨its, rv, p', hz⟩ := I1.tuple hq
    have hal : a < s1.heap.objs.size := by obtain ⟨_, q, _⟩ := p'; exact Heap.lt_size q
    refine call_enumT (show s1.heap.IsTuple a its.toArray from p') fun h' he hit hk => wpAny_pyIter_enum he ?_
    have I2 : Inv X pins σ H1 { s1 with heap := h' } := I1.kept (t' := s1.toks) hk
    refine ⟨s1.heap.objs.size + 1, [s1.heap.objs.size + 1, s1.heap.objs.size], _, _, H1, rfl, I2, turnT_enum a (s1.heap.objs.size + 1) s1.heap.objs.size,
      ⟨⟨.none, he⟩, hit, Nat.succ_ne_self _, Nat.ne_of_gt (Nat.lt_succ_of_lt hal), Nat.ne_of_lt hal⟩, fun b hb => ?_, q⟩
    have e' : b = s1.heap.objs.size + 1 ∨ b = s1.heap.objs.size := by simpa using hb
    have hle : s1.heap.objs.size ≤ b := by
      rcases e' with z | z
      · rw [z]; exact Nat.le_add_right _ _
      · rw [z]; exact Nat.le_refl _
    exact I1.fpOk hle (I1.hok.fresh hle)
/-- the turns: x is the i-th item, the pair stands new at T -/
theorem for_enumT {K : PySem.W.Frag} {a : Addr} {xs : List V} {g : TG} {tb : TS} {D : Ends} {σ : L2.St} {H : Hp} (Pv : Nat → L2.St → Hp → Prop) (h0 : Pv 0 σ H) (hl : ∀ i σ H, i ≤ xs.length → Pv i σ H → SqT K H a xs)
    (hs : ∀ (i : Nat) (x : V) (T : Addr) (σ : L2.St) (H : Hp), xs[i]? = some x → Pv i σ H → H T = none → g (.ref T) σ (upd H T (.tup [.int (i : Nat), x])) fun σ2 H2 => tb { D with nx := Pv (i + 1), ct := Pv (i + 1), bk := D.nx } σ2 H2)
    (hd : ∀ σ H, Pv xs.length σ H → D.nx σ H) :
    ∃ W : Nat → Nat → L2.St → Hp → Prop, (∃ m, W 0 m σ H) ∧ ∀ i m σ H, W i m σ H →
      ((IteT K a).stop i H ∧ D.nx σ H) ∨ ((IteT K a).go i H ∧ ∃ N : L2.St → Hp → Prop, (∀ σ' H', N σ' H' → ∃ m', m' < m ∧ W (i + 1) m' σ' H') ∧ ∀ v H', (IteT K a).yld i H v H' → g v σ H' fun σ2 H2 => tb { D with nx := N, ct := N, bk := D.nx } σ2 H2) := by
  refine ⟨fun i m σ H => m = xs.length - i ∧ i ≤ xs.length ∧ Pv i σ H, ⟨xs.length, by simp, Nat.zero_le _, h0⟩, ?_⟩
  rintro i m σ H ⟨rfl, hi, p⟩
  have q := hl i σ H hi p
  by_cases hlt : i < xs.length
  · have hx : xs[i]? = some xs[i] := List.getElem?_eq_getElem hlt
    refine .inr ⟨⟨xs, xs[i], q, hx⟩, Pv (i + 1), fun σ' H' p' => ⟨xs.length - (i + 1), by omega, rfl, hlt, p'⟩, fun v H' y => ?_⟩
    obtain ⟨T, x, rfl, nT, rfl, f⟩ := y
    exact hs i x T σ H (f _ q) p nT
  · have e : i = xs.length := by omega
    subst e
    exact .inl ⟨⟨xs, q, Nat.le_refl _⟩, hd σ H p⟩
/-- a comprehension over zip of two tuples -/
theorem lc_zipT {K : PySem.W.Frag} {a b : Addr} {xs ys : List V} {g : TG} {tt : TT} {te : TE} {vs : List Nat} {σ : L2.St} {H1 : Hp} {D : Addr} {Qd : Hp → Prop} (hl : xs.length = ys.length) (Pv : Nat → Hp → Prop) (h0 : Pv 0 (upd H1 D (.lst [])))
    (hq : ∀ i H, Pv i H → SqT K H a xs ∧ SqT K H b ys)
    (hs : ∀ (i : Nat) (x y : V) (T : Addr) (H : Hp), xs[i]? = some x → ys[i]? = some y → Pv i H → H T = none → g (.ref T) (wipe σ vs) (upd H T (.tup [x, y])) fun σ2 H2 => wipe σ2 vs = wipe σ vs ∧ tt σ2 H2 fun b H3 =>
      if b = true then te σ2 H3 fun y H4 => ∃ acc, H4 D = some (.lst acc) ∧ acc.length < sizeLine ∧ Pv (i + 1) (upd H4 D (.lst (acc ++ [y]))) else Pv (i + 1) H3) (hd : ∀ H, Pv xs.length H → Qd H) :
    ∃ W : Nat → Nat → Hp → Prop, (∃ m, W 0 m (upd H1 D (.lst []))) ∧ ∀ i m H, W i m H →
      ((ItzT K a b).stop i H ∧ Qd H) ∨ ((ItzT K a b).go i H ∧ ∃ Nx : Hp → Prop, (∀ H', Nx H' → ∃ m', m' < m ∧ W (i + 1) m' H') ∧ ∀ x H', (ItzT K a b).yld i H x H' → g x (wipe σ vs) H' fun σ2 H2 => wipe σ2 vs = wipe σ vs ∧ tt σ2 H2 fun b H3 =>
        if b = true then te σ2 H3 fun y H4 => ∃ acc, H4 D = some (.lst acc) ∧ acc.length < sizeLine ∧ Nx (upd H4 D (.lst (acc ++ [y]))) else Nx H3) := by
  refine ⟨fun i m H => m = xs.length - i ∧ i ≤ xs.length ∧ Pv i H, ⟨xs.length, by simp, Nat.zero_le _, h0⟩, ?_⟩
  rintro i m H ⟨rfl, hi, p⟩
  obtain ⟨qx, qy⟩ := hq i H p
  by_cases hlt : i < xs.length
  · have hx : xs[i]? = some xs[i] := List.getElem?_eq_getElem hlt
    have hlt2 : i < ys.length := by omega
    have hy : ys[i]? = some ys[i] := List.getElem?_eq_getElem hlt2
    refine .inr ⟨⟨xs, ys, _, _, qx, qy, hx, hy⟩, Pv (i + 1), fun H' p' => ⟨xs.length - (i + 1), by omega, rfl, hlt, p'⟩, fun v H' y => ?_⟩
    obtain ⟨T, x, y, rfl, nT, rfl, f1, f2⟩ := y
    exact hs i x y T H (f1 _ qx) (f2 _ qy) p nT
  · have e : i = xs.length := by omega
    subst e
    exact .inl ⟨⟨xs, ys, qx, qy, .inl (Nat.le_refl _)⟩, hd H p⟩

/-! ### a, *b = a list -/
section
variable {prog : Program} {w : World} {A : Around} {E : Value → Shared → Prop} {s : Shared}
open PySem.W in
theorem unpack_star {l : Addr} {x : Value} {its : List Value} {Q : List Value → Shared → Prop} (hl : s.heap.IsList l (x :: its).toArray) (hh : A.handled = none) (hz : (x :: its).length ≤ sizeLine)
    (h : ∀ (h' : Heap) (tk : Nat), (∀ b o, s.heap.get? b = some o → h'.get? b = some o) →
      Q [x, .ref h'.objs.size] { s with heap := h'.push { cls := .type "list", data := .seq its.toArray }, toks := tk }) :
    wpAny (model prog w) A (unpackItems (.ref l) 2 (some 1)) Q E s := by
  have hll : l < s.heap.objs.size := by obtain ⟨o, ho, _⟩ := hl; exact Heap.lt_size ho
  have hlt : l ≠ s.heap.objs.size := Nat.ne_of_lt hll
  unfold unpackItems
  refine wpAny_bind ?_
  unfold notIterableAtAll
  refine wpAny_bind (wpAny_specialOf hl.typeIs slot_list_iter.lookup ?_)
  refine wpAny_pure ?_
  simp only [Bool.false_eq_true, if_false]
  refine wpAny_bind (wpAny_holding (wpAny_pyIter_list hl ?_))
  refine wpAny_bind (wpAny_holding (kun_draw hlt 1 0 _ _ ⟨_, Heap.get?_push_size _ rfl, rfl, rfl⟩ (hl.push _) (by simp) fun h₁ hit₁ hs₁ => ?_))
  have hl₁ : h₁.IsList l (x :: its).toArray := (hl.push _).extBut hs₁.extBut hlt
  obtain ⟨oi, hoi, _⟩ := id hit₁
  obtain ⟨ol, hol, _⟩ := id hl₁
  have e1 : ((x :: its).toArray.toList.drop 0).take 1 = [x] := by simp
  rw [e1]
  rw [if_neg (show ¬ ([x].length < 1) by simp)]
  refine wpAny_bind (wpAny_holding (kun_collect (s := { s with heap := h₁ }) (T := "list_iterator") (.inr (.inr (.inl rfl))) (Walks.list (A := A.in1) hh s.heap.objs.size l hlt (x :: its).toArray) (fun j u st => st.1.typeIs) (k := 1) (by simp) ⟨hit₁, hl₁⟩ (Heap.lt_size hoi) (Heap.lt_size hol) (fun h₂ tk hk => ?_) (by simpa using hz)))
  have e2 : (x :: its).toArray.toList.drop 1 = its := by simp
  rw [e2]
  show wpAny _ _ (if its.length < 2 - 1 - 1 then _ else _) _ _ _
  rw [if_neg (show ¬ (its.length < 2 - 1 - 1) by omega)]
  have e3 : its.length - (2 - 1 - 1) = its.length := by omega
  show wpAny _ _ (newList (its.take (its.length - (2 - 1 - 1))) >>= fun d => pure ([x] ++ [d] ++ its.drop (its.length - (2 - 1 - 1)))) _ _ _
  rw [e3, List.take_length, List.drop_length]
  have hz' : its.length ≤ sizeLine := by rw [List.length_cons] at hz; omega
  refine wpAny_bind (wpAny_newObj_type ?_ hz')
  refine wpAny_pure ?_
  exact h h₂ tk fun b o e => hk b o (Nat.ne_of_lt (Heap.lt_size e)) (hs₁.extBut b o (Nat.ne_of_lt (Heap.lt_size e)) (Heap.get?_push_of_some _ e))
end

def gStar (K : PySem.W.Frag) (t : TGs) : TG := fun v σ H Q => ∃ a x xs, v = .ref a ∧ SqL K H a (x :: xs) ∧ ∀ p, H p = none → t [x, .ref p] σ (upd H p (.lst xs)) Q
theorem pg_star {X : Cx} {e1 e2 : Expr} {p k : _} {pos : Pos} {t : TGs} (hc : X.calm = true) (h : PGs X [e1, .Starred e2 p] t)
    (hn : (assignEach [e1, .Starred e2 p] X.env).length = 2 := by rfl) (hst : (assignEach [e1, .Starred e2 p] X.env).findIdx? (·.1) = some 1 := by rfl) : PG X (.Tuple [e1, .Starred e2 p] k pos) (gStar X.K t) := by
  refine ⟨fun pins s σ H v u Q I r hw => ?_⟩
  obtain ⟨a, x, xs, e0, hq, hw⟩ := hw
  subst e0
  cases r
  obtain ⟨its, rv, pl, hz⟩ := I.list hq
  cases rv with
  | cons rx rr =>
    rename_i ux us
    rw [PyProof.Rows.assign_Tuple]
    refine wpAny_bind (wpAny_standAt ?_)
    unfold unpack
    rw [hn, hst]
    have hl := rr.length
    refine wpAny_bind (wpAny_holding (unpack_star pl.isList (I.ok.hd hc) (by rw [List.length_cons, ← hl]; exact hz) fun h' tk hk => ?_))
    have I1 : Inv X pins σ H { s with heap := h', toks := tk } := I.kept (t' := tk) hk
    have nn : H h'.objs.size = none := I1.hok.fresh (Nat.le_refl _)
    have I2 : Inv X pins σ (upd H h'.objs.size (.lst xs)) { s with heap := h'.push { cls := .type "list", data := .seq us.toArray }, toks := tk } :=
      I1.laid (t' := tk) (fun b o e => Heap.get?_push_of_some _ e) (Nat.le_refl _) ⟨by rw [List.length_cons] at hz; omega, us, 0, rr, Heap.get?_push_size _ rfl⟩
    exact h.run pins _ σ _ [x, .ref h'.objs.size] [ux, .ref h'.objs.size] Q I2 (.cons rx (.cons rfl .nil)) (hw _ nn)

/-! ### sorted of a tuple whose items (text, int, int) ascend: a list of the same items -/
/-- two lists, the one sorted, the other strictly ascending, of the same members, are one -/
theorem asc_uniq {α : Type} {lt : α → α → Bool} : ∀ {l m : List α}, l.Pairwise (fun a b => lt b a = false) → m.Pairwise (fun a b => lt a b = true) → l.Perm m → l = m
  | l, [], _, _, p => p.eq_nil
  | [], y :: m, _, _, p => absurd p.length_eq (by simp)
  | x :: l, y :: m, hl, hm, p => by
    have e : x = y := by
      rcases List.mem_cons.mp (p.mem_iff.mp (List.mem_cons_self (a := x) (l := l))) with e | hx
      · exact e
      · rcases List.mem_cons.mp (p.mem_iff.mpr (List.mem_cons_self (a := y) (l := m))) with e | hy
        · exact e.symm
        · have h1 : lt y x = true := (List.pairwise_cons.mp hm).1 x hx
          have h2 : lt y x = false := (List.pairwise_cons.mp hl).1 y hy
          rw [h1] at h2
          cases h2
    subst e
    rw [asc_uniq (List.pairwise_cons.mp hl).2 (List.pairwise_cons.mp hm).2 p.cons_inv]
open PyProof.Rows.G in
section
variable {prog : Program} {w : World} {A : Around} {E : Value → Shared → Prop} {s : Shared}
/-- (text, int, int): its shape, its key -/
def shp3 : Nat → Bool := fun i => i == 0
abbrev K3 : Type := Str × Int × Int
def key3 (k : K3) : List (Int ⊕ List Nat) := [Sum.inr k.1.cps.toList, Sum.inl k.2.1, Sum.inl k.2.2]
def lt3 (a b : K3) : Bool := (listOrd itemOrd).blt (key3 a) (key3 b)
/-- at v stands such a tuple -/
def Is3 (h : Heap) (v : Value) (k : K3) : Prop := ∃ a t1 t2 t3, v = .ref a ∧ IsTup h a #[.str k.1 t1, .int k.2.1 t2, .int k.2.2 t3]
theorem Is3.key {h : Heap} {v : Value} {k : K3} (x : Is3 h v k) : tupKeyC h shp3 v = some (key3 k) := by
  obtain ⟨a, t1, t2, t3, rfl, o, ho, hc, n, hd⟩ := x
  have e1 : isTupObj h (.ref a) = true := by
    unfold isTupObj
    simp only [ho, hc]
    decide
  unfold tupKeyC
  rw [if_pos e1]
  unfold tupKey
  simp only [ho, hd]
  rfl
theorem Is3.tup {h : Heap} {v : Value} {k : K3} (x : Is3 h v k) : ∃ t, TupOf h shp3 v (.str k.1 t) := by
  obtain ⟨a, t1, t2, t3, rfl, o, ho, hc, n, hd⟩ := x
  exact ⟨t1, a, o, _, n, rfl, ho, hc, hd, rfl, fun z => (by cases z), fun _ => ⟨_, _, rfl⟩⟩
theorem tups3 {h : Heap} : ∀ {vs : List Value} {ks : List K3}, Paired (Is3 h) vs ks → ∃ fs, TupsOf h shp3 vs fs
  | _, _, .nil => ⟨[], .nil⟩
  | _, _, .cons r t => by
    obtain ⟨fs, q⟩ := tups3 t
    obtain ⟨tk, q1⟩ := r.tup
    exact ⟨_, .cons q1 q⟩
theorem keys3 {h : Heap} : ∀ {vs : List Value} {ks : List K3}, Paired (Is3 h) vs ks → ∀ v ∈ vs, ∃ k ∈ ks, Is3 h v k
  | _, _, .nil, _, hv => nomatch hv
  | _, _, .cons r t, v, hv => by
    rcases List.mem_cons.mp hv with rfl | hv
    · exact ⟨_, List.mem_cons_self, r⟩
    · obtain ⟨k, hk, q⟩ := keys3 t v hv
      exact ⟨k, List.mem_cons_of_mem _ hk, q⟩
/-- the order upon what is sorted -/
def ltK (h : Heap) (p q : Keyed) : Bool := (listOrd itemOrd).blt ((tupKeyC h shp3 p.1).getD []) ((tupKeyC h shp3 q.1).getD [])
theorem asc3 {h : Heap} : ∀ {vs : List Value} {ks : List K3}, Paired (Is3 h) vs ks → ks.Pairwise (fun a b => lt3 a b = true) → (vs.zip vs).Pairwise (fun p q => ltK h p q = true)
  | _, _, .nil, _ => List.Pairwise.nil
  | _, _, .cons r t, hk => by
    rw [List.zip_cons_cons, List.pairwise_cons]
    obtain ⟨h1, h2⟩ := List.pairwise_cons.mp hk
    refine ⟨fun q hq => ?_, asc3 t h2⟩
    obtain ⟨k, hk', x⟩ := keys3 t q.1 (List.of_mem_zip (show (q.1, q.2) ∈ _ from hq)).1
    unfold ltK
    rw [r.key, x.key]
    exact h1 k hk'
theorem sorted_asc3 {l : Addr} {o : Obj} {vs : List Value} {ks : List K3} {n : Nat} {Q : Value → Shared → Prop} (ho : s.heap.get? l = some o) (hc : o.cls = .type "tuple") (hd : o.data = .seq vs.toArray n) (hz : vs.length ≤ sizeLine)
    (hp : Paired (Is3 s.heap) vs ks) (ha : ks.Pairwise (fun a b => lt3 a b = true))
    (h : ∀ (h1 h' : Heap), (∀ b o, s.heap.get? b = some o → h1.get? b = some o) → (∀ b o, h1.get? b = some o → h'.get? b = some o) → (∃ n, h'.get? h1.objs.size = some (seqObj "list" vs.toArray n)) → Q (.ref h1.objs.size) { s with heap := h' }) :
    wpAny (model prog w) A (call (.builtin "sorted") [.ref l]) Q E s := by
  refine Calls.call_function_entry kind_sorted plain_sorted entry_sorted (args_sorted1 _) ?_
  unfold Builtin.«sorted»
  refine wpAny_bind (m := checkCount "sorted" 1 1 _) (wpAny_pure ?_)
  refine wpAny_bind (wpAny_collect_seq l (.inr rfl) ho hc hd (fun h1 kp => ?_) (by simpa using hz))
  have e0 : vs.toArray.toList = vs := by simp
  rw [e0]
  refine wpAny_bind (wpAny_newList ?_ hz)
  show wpAny _ _ _ _ _ { s with heap := h1.push (seqObj "list" vs.toArray 0) }
  have hoL : (h1.push (seqObj "list" vs.toArray 0)).get? h1.objs.size = some (seqObj "list" vs.toArray 0) := Heap.get?_push_size _ rfl
  have kp2 : ∀ b o, s.heap.get? b = some o → (h1.push (seqObj "list" vs.toArray 0)).get? b = some o := fun b o e => Heap.get?_push_of_some _ (kp b o e)
  have hp2 : Paired (Is3 (h1.push (seqObj "list" vs.toArray 0))) vs ks := Paired.mapP hp fun v k ⟨a, t1, t2, t3, e, o, ho', r⟩ => ⟨a, t1, t2, t3, e, o, kp2 a o ho', r⟩
  obtain ⟨fs, hfs⟩ := tups3 hp2
  have hks : ∀ v, v ∈ vs → ∃ l, tupKeyC (h1.push (seqObj "list" vs.toArray 0)) shp3 v = some l := fun v hv => by
    obtain ⟨k, _, x⟩ := keys3 hp2 v hv
    exact ⟨_, x.key⟩
  refine wpAny_bind (wpAny_holding (wpAny_call_entry slot_list_sort ⟨_, hoL, rfl⟩ entry_list_sort (list_sort_tups (s := { s with heap := h1.push (seqObj "list" vs.toArray 0) }) hoL hfs hks hz fun st' a1 a2 a3 => ⟨_, rfl, ?_⟩) (args_list_sort _)))
  refine wpAny_pure ⟨_, rfl, ?_⟩
  have hP : (arrOf st').toList.Perm (vs.zip vs) := by
    have q := Array.perm_iff_toList_perm.mp a1
    rw [pairsOf_toList] at q
    exact q
  have hlen : (arrOf st').toList.length = vs.length := by rw [hP.length_eq, List.length_zip]; omega
  have hS : (arrOf st').toList.Pairwise (fun p q => ltK (h1.push (seqObj "list" vs.toArray 0)) q p = false) := by
    rw [List.pairwise_iff_getElem]
    intro i j hi hj hij
    have q := a2 i j (Nat.le_of_lt hij) (by rw [pairsOf_size, ← hlen]; exact hj)
    have hi' : i < (arrOf st').size := by simpa using hi
    have hj' : j < (arrOf st').size := by simpa using hj
    have ei : KK (tupKindC (h1.push (seqObj "list" vs.toArray 0)) shp3) (arrOf st') i = (tupKeyC (h1.push (seqObj "list" vs.toArray 0)) shp3 (arrOf st')[i].1).getD [] := by
      unfold KK
      rw [Array.getElem?_eq_getElem hi']
    have ej : KK (tupKindC (h1.push (seqObj "list" vs.toArray 0)) shp3) (arrOf st') j = (tupKeyC (h1.push (seqObj "list" vs.toArray 0)) shp3 (arrOf st')[j].1).getD [] := by
      unfold KK
      rw [Array.getElem?_eq_getElem hj']
    rw [ei, ej] at q
    have q' : (listOrd itemOrd).blt ((tupKeyC (h1.push (seqObj "list" vs.toArray 0)) shp3 (arrOf st')[j].1).getD []) ((tupKeyC (h1.push (seqObj "list" vs.toArray 0)) shp3 (arrOf st')[i].1).getD []) = false := q
    unfold ltK
    simp only [Array.getElem_toList]
    exact q'
  have hE : (arrOf st').toList = vs.zip vs := asc_uniq hS (asc3 hp2 ha) hP
  have hO : (arrOf st').map (·.2) = vs.toArray := by
    apply Array.ext'
    rw [Array.toList_map, hE]
    exact List.map_snd_zip (Nat.le_refl _)
  rw [hO]
  refine h h1 _ kp (fun b o e => ?_) ?_
  · have hb : b ≠ h1.objs.size := Nat.ne_of_lt (Heap.lt_size e)
    unfold sortedHeap
    rw [Heap.get?_update_ne _ _ _ _ hb]
    refine Heap.get?_push_of_some _ (Heap.get?_push_of_some _ ?_)
    rw [Heap.get?_update_ne _ _ _ _ hb]
    exact Heap.get?_push_of_some _ e
  · obtain ⟨e1, ho1⟩ : ∃ e1, ((h1.push (seqObj "list" vs.toArray 0)).update h1.objs.size (Obj.mapSeq fun _ => #[])).get? h1.objs.size = some (seqObj "list" #[] e1) := ⟨_, get?_update_seq hoL (fun _ => #[])⟩
    exact ⟨_, get?_update_seq (Heap.get?_push_of_some _ (Heap.get?_push_of_some _ ho1)) (fun _ => vs.toArray)⟩
end
def rSort3 (K : PySem.W.Frag) : List V → Hp → VK → Prop := fun vs H Q => ∃ (a : Addr) (xs : List V) (ks : List K3), vs = [.ref a] ∧ SqT K H a xs ∧
  Paired (fun x k => ∃ t, x = V.ref t ∧ SqT K H t [.str k.1, .int k.2.1, .int k.2.2]) xs ks ∧ ks.Pairwise (fun a b => lt3 a b = true) ∧ ∀ p, H p = none → Q (.ref p) (upd H p (.lst xs))
theorem cr_sort3 {X : Cx} : CallR X (.builtin "sorted") (rSort3 X.K) := by
  intro pins s σ H vs us Q I r h
  obtain ⟨a, xs, ks, rfl, hs, hx, ha, q⟩ := h
  obtain ⟨its, rv, ⟨o, ho, hc, n, hd⟩, hz⟩ := I.tuple hs
  obtain ⟨u, rfl, ru⟩ := vals1 r
  obtain rfl : u = Value.ref a := ru
  have hl := rv.length
  have hp : Paired (Is3 s.heap) its ks := by
    clear ha q hd hs r hz hl
    induction hx generalizing its with
    | nil =>
      cases rv
      exact .nil
    | cons r1 t1 ih =>
      cases rv with
      | cons r2 t2 =>
        obtain ⟨t, e, hq⟩ := r1
        subst e
        cases r2
        obtain ⟨i3, v3, p3, _⟩ := I.tuple hq
        cases v3 with
        | cons ra v3 =>
          cases v3 with
          | cons rb v3 =>
            cases v3 with
            | cons rc v3 =>
              cases v3
              obtain ⟨ta, rfl⟩ := ra
              obtain ⟨tb, rfl⟩ := rb
              obtain ⟨tc, rfl⟩ := rc
              exact .cons ⟨t, ta, tb, tc, rfl, p3⟩ (ih _ t2)
  refine sorted_asc3 ho hc hd (by rw [← hl]; exact hz) hp ha fun h1 h' k1 k2 hn => ?_
  have I1 : Inv X pins σ H { s with heap := h1 } := I.kept (t' := s.toks) k1
  obtain ⟨ep, hn⟩ := hn
  exact ⟨.ref h1.objs.size, _, I1.laid (a := h1.objs.size) (o := .lst xs) (t' := s.toks) k2 (Nat.le_refl _) ⟨hz, its, ep, rv, hn⟩, rfl, q _ (I1.hok.fresh (Nat.le_refl _))⟩
/-- sorted texts, the one behind the other -/
theorem risingS_pw : ∀ {p : Str} {l : List Str}, risingS p l = true → (p :: l).Pairwise (fun a b => ltCps b.cps.toList a.cps.toList = false)
  | p, [], _ => by simp
  | p, x :: r, h => by
    have h' : (!ltCps x.cps.toList p.cps.toList && risingS x r) = true := h
    obtain ⟨h1, h2⟩ := Bool.and_eq_true_iff.mp h'
    have ih := risingS_pw h2
    have h3 : ltCps x.cps.toList p.cps.toList = false := by simpa using h1
    refine List.pairwise_cons.mpr ⟨fun y hy => ?_, ih⟩
    rcases List.mem_cons.mp hy with rfl | hy
    · exact h3
    · have h4 : ltCps y.cps.toList x.cps.toList = false := (List.pairwise_cons.mp ih).1 y hy
      cases h5 : ltCps y.cps.toList p.cps.toList with
      | false => rfl
      | true =>
        rw [ltCps_eq] at h3 h4 h5
        have a3 : ¬ x.cps.toList < p.cps.toList := of_decide_eq_false h3
        have a4 : ¬ y.cps.toList < x.cps.toList := of_decide_eq_false h4
        have a5 : y.cps.toList < p.cps.toList := of_decide_eq_true h5
        exact absurd (List.lt_of_le_of_lt (List.not_lt.mp a4) a5) a3
theorem sortedS_uniq {ys xs : List Str} (h : sortedS ys = true) (hx : xs.Pairwise (fun a b => ltCps a.cps.toList b.cps.toList = true)) (p : ys.Perm xs) : ys = xs := by
  refine asc_uniq (lt := fun a b => ltCps a.cps.toList b.cps.toList) ?_ hx p
  cases ys with
  | nil => exact List.Pairwise.nil
  | cons y r => exact risingS_pw h
end B9

/-! The text by places: each def's statement, its names by slot, its scope (printed by a program). -/
namespace B9
open PySem PySem.Spec PyProof.Rows L2
def topS (i : Nat) : Stmt := PySem.Challenge.pw_blameplaces_k09_whole_places_and_jumps.main.body.getD i (.Pass ⟨0, 0, 0, 0⟩)
abbrev s_is_integer : Stmt := topS 10
abbrev N_is_integer : List Str := ["thing"]
theorem sc_is_integer : FnScope N_is_integer ["thing"] (defScope s_is_integer) := ⟨rfl, rfl, rfl, by decide +kernel, rfl, by decide +kernel, by decide +kernel⟩
abbrev s_is_number : Stmt := topS 11
abbrev N_is_number : List Str := ["thing"]
theorem sc_is_number : FnScope N_is_number ["thing"] (defScope s_is_number) := ⟨rfl, rfl, rfl, by decide +kernel, rfl, by decide +kernel, by decide +kernel⟩
abbrev s_is_name : Stmt := topS 12
abbrev N_is_name : List Str := ["thing", "char"]
theorem sc_is_name : FnScope N_is_name ["thing"] (defScope s_is_name) := ⟨rfl, rfl, rfl, by decide +kernel, rfl, by decide +kernel, by decide +kernel⟩
abbrev s_is_tuple_with : Stmt := topS 13
abbrev N_is_tuple_with : List Str := ["thing", "checks", "check", "part"]
theorem sc_is_tuple_with : FnScope N_is_tuple_with ["thing", "checks"] (defScope s_is_tuple_with) := ⟨rfl, rfl, rfl, by decide +kernel, rfl, by decide +kernel, by decide +kernel⟩
abbrev s_is_tuple_of : Stmt := topS 14
abbrev N_is_tuple_of : List Str := ["thing", "check", "part"]
theorem sc_is_tuple_of : FnScope N_is_tuple_of ["thing", "check"] (defScope s_is_tuple_of) := ⟨rfl, rfl, rfl, by decide +kernel, rfl, by decide +kernel, by decide +kernel⟩
abbrev s_has_variable_shape : Stmt := topS 15
abbrev N_has_variable_shape : List Str := ["thing"]
theorem sc_has_variable_shape : FnScope N_has_variable_shape ["thing"] (defScope s_has_variable_shape) := ⟨rfl, rfl, rfl, by decide +kernel, rfl, by decide +kernel, by decide +kernel⟩
abbrev s_is_worded : Stmt := topS 16
abbrev N_is_worded : List Str := ["thing"]
theorem sc_is_worded : FnScope N_is_worded ["thing"] (defScope s_is_worded) := ⟨rfl, rfl, rfl, by decide +kernel, rfl, by decide +kernel, by decide +kernel⟩
abbrev s_is_expression : Stmt := topS 17
abbrev N_is_expression : List Str := ["thing"]
theorem sc_is_expression : FnScope N_is_expression ["thing"] (defScope s_is_expression) := ⟨rfl, rfl, rfl, by decide +kernel, rfl, by decide +kernel, by decide +kernel⟩
abbrev s_are_expressions : Stmt := topS 18
abbrev N_are_expressions : List Str := ["thing"]
theorem sc_are_expressions : FnScope N_are_expressions ["thing"] (defScope s_are_expressions) := ⟨rfl, rfl, rfl, by decide +kernel, rfl, by decide +kernel, by decide +kernel⟩
abbrev s_is_row : Stmt := topS 19
abbrev N_is_row : List Str := ["thing"]
theorem sc_is_row : FnScope N_is_row ["thing"] (defScope s_is_row) := ⟨rfl, rfl, rfl, by decide +kernel, rfl, by decide +kernel, by decide +kernel⟩
abbrev s_names_in : Stmt := topS 25
abbrev N_names_in : List Str := ["e", "part", "name"]
theorem sc_names_in : FnScope N_names_in ["e"] (defScope s_names_in) := ⟨rfl, rfl, rfl, by decide +kernel, rfl, by decide +kernel, by decide +kernel⟩
abbrev s_fits : Stmt := topS 26
abbrev N_fits : List Str := ["names", "thing", "name"]
theorem sc_fits : FnScope N_fits ["names", "thing"] (defScope s_fits) := ⟨rfl, rfl, rfl, by decide +kernel, rfl, by decide +kernel, by decide +kernel⟩
abbrev s_require : Stmt := topS 28
abbrev N_require : List Str := ["condition", "word", "at"]
theorem sc_require : FnScope N_require ["condition", "word", "at"] (defScope s_require) := ⟨rfl, rfl, rfl, by decide +kernel, rfl, by decide +kernel, by decide +kernel⟩
abbrev s_are_variable_shapes : Stmt := topS 29
abbrev N_are_variable_shapes : List Str := ["thing"]
theorem sc_are_variable_shapes : FnScope N_are_variable_shapes ["thing"] (defScope s_are_variable_shapes) := ⟨rfl, rfl, rfl, by decide +kernel, rfl, by decide +kernel, by decide +kernel⟩
abbrev s_are_rows : Stmt := topS 30
abbrev N_are_rows : List Str := ["thing"]
theorem sc_are_rows : FnScope N_are_rows ["thing"] (defScope s_are_rows) := ⟨rfl, rfl, rfl, by decide +kernel, rfl, by decide +kernel, by decide +kernel⟩
abbrev s_is_function_shape : Stmt := topS 31
abbrev N_is_function_shape : List Str := ["thing"]
theorem sc_is_function_shape : FnScope N_is_function_shape ["thing"] (defScope s_is_function_shape) := ⟨rfl, rfl, rfl, by decide +kernel, rfl, by decide +kernel, by decide +kernel⟩
abbrev s_are_function_shapes : Stmt := topS 32
abbrev N_are_function_shapes : List Str := ["thing"]
theorem sc_are_function_shapes : FnScope N_are_function_shapes ["thing"] (defScope s_are_function_shapes) := ⟨rfl, rfl, rfl, by decide +kernel, rfl, by decide +kernel, by decide +kernel⟩
abbrev s_check_variables : Stmt := topS 33
abbrev N_check_variables : List Str := ["k", "function", "name", "low", "high", "variables", "many", "rows", "known", "j", "own", "least", "greatest"]
theorem sc_check_variables : FnScope N_check_variables ["k", "function"] (defScope s_check_variables) := ⟨rfl, rfl, rfl, by decide +kernel, rfl, by decide +kernel, by decide +kernel⟩
abbrev s_row_fits : Stmt := topS 34
abbrev N_row_fits : List Str := ["row", "names", "counts", "word", "name", "called", "arguments", "e"]
theorem sc_row_fits : FnScope N_row_fits ["row", "names", "counts"] (defScope s_row_fits) := ⟨rfl, rfl, rfl, by decide +kernel, rfl, by decide +kernel, by decide +kernel⟩
abbrev s_check_block : Stmt := topS 35
abbrev N_check_block : List Str := ["row", "r", "opened", "at"]
theorem sc_check_block : FnScope N_check_block ["row", "r", "opened", "at"] (defScope s_check_block) := ⟨rfl, rfl, rfl, by decide +kernel, rfl, by decide +kernel, by decide +kernel⟩
abbrev s_check_rows : Stmt := topS 36
abbrev N_check_rows : List Str := ["k", "function", "counts", "names", "opened", "r", "row", "own"]
theorem sc_check_rows : FnScope N_check_rows ["k", "function", "counts"] (defScope s_check_rows) := ⟨rfl, rfl, rfl, by decide +kernel, rfl, by decide +kernel, by decide +kernel⟩
abbrev s_places_in_row : Stmt := topS 37
abbrev N_places_in_row : List Str := ["row"]
theorem sc_places_in_row : FnScope N_places_in_row ["row"] (defScope s_places_in_row) := ⟨rfl, rfl, rfl, by decide +kernel, rfl, by decide +kernel, by decide +kernel⟩
abbrev s_lets_program : Stmt := topS 38
abbrev N_lets_program : List Str := ["thing", "functions", "first", "most", "k", "function", "counts", "row"]
theorem sc_lets_program : FnScope N_lets_program ["thing"] (defScope s_lets_program) := ⟨rfl, rfl, rfl, by decide +kernel, rfl, by decide +kernel, by decide +kernel⟩
abbrev s_function_of : Stmt := topS 40
abbrev N_function_of : List Str := ["program", "name", "function"]
theorem sc_function_of : FnScope N_function_of ["program", "name"] (defScope s_function_of) := ⟨rfl, rfl, rfl, by decide +kernel, rfl, by decide +kernel, by decide +kernel⟩
abbrev s_places_of_function : Stmt := topS 41
abbrev N_places_of_function : List Str := ["function", "found", "r", "row", "part"]
theorem sc_places_of_function : FnScope N_places_of_function ["function"] (defScope s_places_of_function) := ⟨rfl, rfl, rfl, by decide +kernel, rfl, by decide +kernel, by decide +kernel⟩
abbrev s_places_of : Stmt := topS 42
abbrev N_places_of : List Str := ["program", "function", "place"]
theorem sc_places_of : FnScope N_places_of ["program"] (defScope s_places_of) := ⟨rfl, rfl, rfl, by decide +kernel, rfl, by decide +kernel, by decide +kernel⟩
abbrev s_is_place : Stmt := topS 43
abbrev N_is_place : List Str := ["program", "thing"]
theorem sc_is_place : FnScope N_is_place ["program", "thing"] (defScope s_is_place) := ⟨rfl, rfl, rfl, by decide +kernel, rfl, by decide +kernel, by decide +kernel⟩
abbrev s_function_at : Stmt := topS 44
abbrev N_function_at : List Str := ["program", "place"]
theorem sc_function_at : FnScope N_function_at ["program", "place"] (defScope s_function_at) := ⟨rfl, rfl, rfl, by decide +kernel, rfl, by decide +kernel, by decide +kernel⟩
abbrev s_names_at : Stmt := topS 45
abbrev N_names_at : List Str := ["program", "place", "own"]
theorem sc_names_at : FnScope N_names_at ["program", "place"] (defScope s_names_at) := ⟨rfl, rfl, rfl, by decide +kernel, rfl, by decide +kernel, by decide +kernel⟩
abbrev s_range_of : Stmt := topS 46
abbrev N_range_of : List Str := ["program", "place", "name", "low", "high", "variables", "many", "rows", "row", "own"]
theorem sc_range_of : FnScope N_range_of ["program", "place"] (defScope s_range_of) := ⟨rfl, rfl, rfl, by decide +kernel, rfl, by decide +kernel, by decide +kernel⟩
abbrev s_expression_at : Stmt := topS 47
abbrev N_expression_at : List Str := ["program", "place", "row"]
theorem sc_expression_at : FnScope N_expression_at ["program", "place"] (defScope s_expression_at) := ⟨rfl, rfl, rfl, by decide +kernel, rfl, by decide +kernel, by decide +kernel⟩
abbrev s_jumps_of : Stmt := topS 48
abbrev N_jumps_of : List Str := ["rows", "found", "opened", "r", "row", "begin", "divided"]
theorem sc_jumps_of : FnScope N_jumps_of ["rows"] (defScope s_jumps_of) := ⟨rfl, rfl, rfl, by decide +kernel, rfl, by decide +kernel, by decide +kernel⟩
abbrev s__law_feed : Stmt := topS 50
abbrev N__law_feed : List Str := ["_law_script"]
theorem sc__law_feed : FnScope N__law_feed ["_law_script"] (defScope s__law_feed) := ⟨rfl, rfl, rfl, by decide +kernel, rfl, by decide +kernel, by decide +kernel⟩
abbrev s__law_draw : Stmt := topS 51
abbrev N__law_draw : List Str := ["_law_feed_here", "_law_many", "_law_digit", "_law_at", "_law_cell", "_law_mixed"]
theorem sc__law_draw : FnScope N__law_draw ["_law_feed_here", "_law_many"] (defScope s__law_draw) := ⟨rfl, rfl, rfl, by decide +kernel, rfl, by decide +kernel, by decide +kernel⟩
abbrev s__law_sizes : Stmt := topS 52
abbrev N__law_sizes : List Str := ["_law_found", "_law_word"]
theorem sc__law_sizes : FnScope N__law_sizes [] (defScope s__law_sizes) := ⟨rfl, rfl, rfl, by decide +kernel, rfl, by decide +kernel, by decide +kernel⟩
abbrev s__law_parts : Stmt := topS 53
abbrev N__law_parts : List Str := ["_law_row"]
theorem sc__law_parts : FnScope N__law_parts ["_law_row"] (defScope s__law_parts) := ⟨rfl, rfl, rfl, by decide +kernel, rfl, by decide +kernel, by decide +kernel⟩
abbrev s__law_leaf : Stmt := topS 54
abbrev N__law_leaf : List Str := ["_law_feed_here", "_law_names"]
theorem sc__law_leaf : FnScope N__law_leaf ["_law_feed_here", "_law_names"] (defScope s__law_leaf) := ⟨rfl, rfl, rfl, by decide +kernel, rfl, by decide +kernel, by decide +kernel⟩
abbrev s__law_formula : Stmt := topS 55
abbrev N__law_formula : List Str := ["_law_feed_here", "_law_names", "_law_deep", "_law_words", "_law_word", "_law_k"]
theorem sc__law_formula : FnScope N__law_formula ["_law_feed_here", "_law_names", "_law_deep"] (defScope s__law_formula) := ⟨rfl, rfl, rfl, by decide +kernel, rfl, by decide +kernel, by decide +kernel⟩
abbrev s__law_variables : Stmt := topS 56
abbrev N__law_variables : List Str := ["_law_feed_here", "_law_menus", "_law_found", "_law_menu", "_law_name", "_law_low"]
theorem sc__law_variables : FnScope N__law_variables ["_law_feed_here"] (defScope s__law_variables) := ⟨rfl, rfl, rfl, by decide +kernel, rfl, by decide +kernel, by decide +kernel⟩
abbrev s__law_heads : Stmt := topS 57
abbrev N__law_heads : List Str := ["_law_feed_here", "_law_found", "_law_name", "_law_low", "_law_variables_here"]
theorem sc__law_heads : FnScope N__law_heads ["_law_feed_here"] (defScope s__law_heads) := ⟨rfl, rfl, rfl, by decide +kernel, rfl, by decide +kernel, by decide +kernel⟩
abbrev s__law_plain_row : Stmt := topS 58
abbrev N__law_plain_row : List Str := ["_law_feed_here", "_law_names", "_law_heads_here", "_law_way", "_law_e", "_law_name", "_law_other", "_law_k"]
theorem sc__law_plain_row : FnScope N__law_plain_row ["_law_feed_here", "_law_names", "_law_heads_here", "_law_way"] (defScope s__law_plain_row) := ⟨rfl, rfl, rfl, by decide +kernel, rfl, by decide +kernel, by decide +kernel⟩
abbrev s__law_block : Stmt := topS 59
abbrev N__law_block : List Str := ["_law_feed_here", "_law_names", "_law_heads_here", "_law_deep", "_law_left", "_law_found", "_law_k", "_law_way", "_law_word", "_law_more", "_law_inner", "_law_row", "_law_size"]
theorem sc__law_block : FnScope N__law_block ["_law_feed_here", "_law_names", "_law_heads_here", "_law_deep", "_law_left"] (defScope s__law_block) := ⟨rfl, rfl, rfl, by decide +kernel, rfl, by decide +kernel, by decide +kernel⟩
abbrev s__law_program : Stmt := topS 60
abbrev N__law_program : List Str := ["_law_feed_here", "_law_heads_here", "_law_found", "_law_own", "_law_names", "_law_variable"]
theorem sc__law_program : FnScope N__law_program ["_law_feed_here"] (defScope s__law_program) := ⟨rfl, rfl, rfl, by decide +kernel, rfl, by decide +kernel, by decide +kernel⟩
abbrev s__law_first_program : Stmt := topS 61
abbrev N__law_first_program : List Str := ["_law_first", "_law_rows"]
theorem sc__law_first_program : FnScope N__law_first_program [] (defScope s__law_first_program) := ⟨rfl, rfl, rfl, by decide +kernel, rfl, by decide +kernel, by decide +kernel⟩
abbrev s__law_word_program : Stmt := topS 62
abbrev N__law_word_program : List Str := ["_law_rows", "_law_other", "_law_words"]
theorem sc__law_word_program : FnScope N__law_word_program [] (defScope s__law_word_program) := ⟨rfl, rfl, rfl, by decide +kernel, rfl, by decide +kernel, by decide +kernel⟩
abbrev s__law_samples : Stmt := topS 63
abbrev N__law_samples : List Str := ["_law_found", "_law_rows", "_law_deep", "_law_k"]
theorem sc__law_samples : FnScope N__law_samples [] (defScope s__law_samples) := ⟨rfl, rfl, rfl, by decide +kernel, rfl, by decide +kernel, by decide +kernel⟩
abbrev s__law_place_right : Stmt := topS 64
abbrev N__law_place_right : List Str := ["_law_program_here", "_law_place", "_law_whole", "_law_names", "_law_e", "_law_low", "_law_high", "_law_row", "_law_other", "_law_name", "_law_own"]
theorem sc__law_place_right : FnScope N__law_place_right ["_law_program_here", "_law_place"] (defScope s__law_place_right) := ⟨rfl, rfl, rfl, by decide +kernel, rfl, by decide +kernel, by decide +kernel⟩
abbrev s__law_jumps_right : Stmt := topS 65
abbrev N__law_jumps_right : List Str := ["_law_rows", "_law_jumps", "_law_size", "_law_r", "_law_word", "_law_to"]
theorem sc__law_jumps_right : FnScope N__law_jumps_right ["_law_rows"] (defScope s__law_jumps_right) := ⟨rfl, rfl, rfl, by decide +kernel, rfl, by decide +kernel, by decide +kernel⟩
abbrev s__law_ends_right : Stmt := topS 66
abbrev N__law_ends_right : List Str := ["_law_rows", "_law_jumps", "_law_r", "_law_to", "_law_word", "_law_before", "_law_back"]
theorem sc__law_ends_right : FnScope N__law_ends_right ["_law_rows", "_law_jumps", "_law_r"] (defScope s__law_ends_right) := ⟨rfl, rfl, rfl, by decide +kernel, rfl, by decide +kernel, by decide +kernel⟩
abbrev s__law_inside_right : Stmt := topS 67
abbrev N__law_inside_right : List Str := ["_law_rows", "_law_jumps", "_law_r", "_law_inner", "_law_k", "_law_to"]
theorem sc__law_inside_right : FnScope N__law_inside_right ["_law_rows"] (defScope s__law_inside_right) := ⟨rfl, rfl, rfl, by decide +kernel, rfl, by decide +kernel, by decide +kernel⟩
abbrev s_law : Stmt := topS 68
abbrev N_law : List Str := ["_law_script", "_law_feed_here", "_law_program_here", "_law_places", "_law_titles", "_law_name", "_law_whole", "_law_due", "_law_k", "_law_place", "_law_row"]
theorem sc_law : FnScope N_law ["_law_script"] (defScope s_law) := ⟨rfl, rfl, rfl, by decide +kernel, rfl, by decide +kernel, by decide +kernel⟩
end B9

/-! Data: what a value stands for (tuples alone), programs as Lean types. -/
namespace B9
open PySem PySem.Spec PyProof.Rows L2

/-! ### a value that stands for data made of tuples -/
mutual
inductive Tp (K : PySem.W.Frag) (H : Hp) : V → PyData → Prop
  | non : Tp K H .non .none
  | bl (b : Bool) : Tp K H (.bl b) (.bool b)
  | int (i : Int) : Tp K H (.int i) (.int i)
  | str (x : Str) : Tp K H (.str x) (.str x)
  | tup {a : Addr} {xs : List V} {ds : List PyData} : SqT K H a xs → TpAll K H xs ds → Tp K H (.ref a) (.tuple ds)
inductive TpAll (K : PySem.W.Frag) (H : Hp) : List V → List PyData → Prop
  | nil : TpAll K H [] []
  | cons {v : V} {vs : List V} {d : PyData} {ds : List PyData} : Tp K H v d → TpAll K H vs ds → TpAll K H (v :: vs) (d :: ds)
end
/-- the tuples stay -/
def TSm (K : PySem.W.Frag) (H H' : Hp) : Prop := ∀ a xs, SqT K H a xs → SqT K H' a xs
section
variable {K : PySem.W.Frag} {H H' H1 H2 : Hp}
theorem TSm.refl : TSm K H H := fun _ _ h => h
theorem TSm.trans (a : TSm K H H1) (b : TSm K H1 H2) : TSm K H H2 := fun x y h => b x y (a x y h)
theorem _root_.L2.Same.tsm (s : Same H H') : TSm K H H' := fun a xs h => by
  rcases h with (h | ⟨o, h⟩) | h
  · exact .inl (.inl (s _ _ h))
  · exact .inl (.inr ⟨o, s _ _ h⟩)
  · exact .inr h
theorem same_upd {p : Addr} {o : HO} (h : H p = none) : Same H (upd H p o) := fun b x e => by
  rw [upd_ne (ne_of_none e h)]
  exact e
/-- not a tuple -/
def notTup : HO → Bool
  | .tup _ => false
  | .frz _ _ => false
  | _ => true
theorem tsm_upd {p : Addr} {o o' : HO} (h : H p = some o) (n : notTup o = true) : TSm K H (upd H p o') := fun a xs q => by
  rcases q with (q | ⟨ob, q⟩) | q
  · refine .inl (.inl ?_)
    rw [upd_ne (ne_of q h (fun z => by rw [← z] at n; cases n))]
    exact q
  · refine .inl (.inr ⟨ob, ?_⟩)
    rw [upd_ne (ne_of q h (fun z => by rw [← z] at n; cases n))]
    exact q
  · exact .inr q
mutual
theorem Tp.mono (t : TSm K H H') : ∀ {d : PyData} {v : V}, Tp K H v d → Tp K H' v d
  | .none, _, h => by cases h; exact .non
  | .bool _, _, h => by cases h; exact .bl _
  | .int _, _, h => by cases h; exact .int _
  | .str _, _, h => by cases h; exact .str _
  | .list _, _, h => nomatch h
  | .tuple ds, _, h => by
    cases h with
    | tup hs ha => exact .tup (t _ _ hs) (TpAll.mono t ha)
  | .dict _, _, h => nomatch h
theorem TpAll.mono (t : TSm K H H') : ∀ {ds : List PyData} {vs : List V}, TpAll K H vs ds → TpAll K H' vs ds
  | [], _, h => by cases h; exact .nil
  | _ :: _, _, h => by
    cases h with
    | cons h1 h2 => exact .cons (Tp.mono t h1) (TpAll.mono t h2)
end
mutual
theorem Tp.dp : ∀ {d : PyData} {v : V}, Tp K H v d → Dp K H v d
  | .none, _, h => by cases h; exact .non
  | .bool _, _, h => by cases h; exact .bl _
  | .int _, _, h => by cases h; exact .int _
  | .str _, _, h => by cases h; exact .str _
  | .list _, _, h => nomatch h
  | .tuple ds, _, h => by
    cases h with
    | tup hs ha => exact .tup hs (TpAll.dp ha)
  | .dict _, _, h => nomatch h
theorem TpAll.dp : ∀ {ds : List PyData} {vs : List V}, TpAll K H vs ds → DpAll K H vs ds
  | [], _, h => by cases h; exact .nil
  | _ :: _, _, h => by
    cases h with
    | cons h1 h2 => exact .cons (Tp.dp h1) (TpAll.dp h2)
end
theorem Tp.str_inv {v : V} {x : Str} (h : Tp K H v (.str x)) : v = .str x := by cases h; rfl
theorem Tp.int_inv {v : V} {i : Int} (h : Tp K H v (.int i)) : v = .int i := by cases h; rfl
theorem Tp.tup_inv {v : V} {ds : List PyData} (h : Tp K H v (.tuple ds)) : ∃ a xs, v = .ref a ∧ SqT K H a xs ∧ TpAll K H xs ds := by
  cases h with
  | tup hs ha => exact ⟨_, _, rfl, hs, ha⟩
theorem TpAll.nil_inv {xs : List V} (h : TpAll K H xs []) : xs = [] := by cases h; rfl
theorem TpAll.cons_inv {xs : List V} {d : PyData} {ds : List PyData} (h : TpAll K H xs (d :: ds)) : ∃ v vs, xs = v :: vs ∧ Tp K H v d ∧ TpAll K H vs ds := by
  cases h with
  | cons h1 h2 => exact ⟨_, _, rfl, h1, h2⟩
theorem TpAll.length : ∀ {xs : List V} {ds : List PyData}, TpAll K H xs ds → xs.length = ds.length
  | _, [], h => by rw [h.nil_inv]; rfl
  | _, _ :: _, h => by
    obtain ⟨v, vs, rfl, _, h2⟩ := h.cons_inv
    rw [List.length_cons, List.length_cons, h2.length]
theorem TpAll.get : ∀ {xs : List V} {ds : List PyData} {i : Nat} {x : V}, TpAll K H xs ds → xs[i]? = some x → ∃ d, ds[i]? = some d ∧ Tp K H x d
  | _, [], i, x, h, e => by rw [h.nil_inv] at e; simp at e
  | _, d :: ds, 0, x, h, e => by
    obtain ⟨v, vs, rfl, h1, h2⟩ := h.cons_inv
    cases e
    exact ⟨d, rfl, h1⟩
  | _, d :: ds, i + 1, x, h, e => by
    obtain ⟨v, vs, rfl, h1, h2⟩ := h.cons_inv
    exact TpAll.get (xs := vs) (ds := ds) (i := i) h2 e
theorem TpAll.at {xs : List V} {ds : List PyData} {i : Nat} {d : PyData} (h : TpAll K H xs ds) (e : ds[i]? = some d) : ∃ x, xs[i]? = some x ∧ Tp K H x d := by
  have hi : i < xs.length := by rw [h.length]; exact (List.getElem?_eq_some_iff.mp e).1
  obtain ⟨d', e', t⟩ := h.get (List.getElem?_eq_getElem hi)
  rw [e] at e'
  cases e'
  exact ⟨_, List.getElem?_eq_getElem hi, t⟩
theorem TpAll.append : ∀ {xs ys : List V} {ds es : List PyData}, TpAll K H xs ds → TpAll K H ys es → TpAll K H (xs ++ ys) (ds ++ es)
  | _, _, [], _, h, k => by rw [h.nil_inv]; exact k
  | _, _, _ :: _, _, h, k => by
    obtain ⟨v, vs, rfl, h1, h2⟩ := h.cons_inv
    exact .cons h1 (h2.append k)
theorem TpAll.of_get {xs : List V} {ds : List PyData} (hl : xs.length = ds.length) (h : ∀ (i : Nat) (x : V) (d : PyData), xs[i]? = some x → ds[i]? = some d → Tp K H x d) : TpAll K H xs ds := by
  induction xs generalizing ds with
  | nil =>
    cases ds with
    | nil => exact .nil
    | cons _ _ => cases hl
  | cons x xs ih =>
    cases ds with
    | nil => cases hl
    | cons d ds => exact .cons (h 0 x d rfl rfl) (ih (Nat.succ.inj hl) fun i y e h1 h2 => h (i + 1) y e h1 h2)
theorem TpAll.take {xs : List V} {ds : List PyData} (h : TpAll K H xs ds) (n : Nat) : TpAll K H (xs.take n) (ds.take n) := by
  refine .of_get (by rw [List.length_take, List.length_take, h.length]) fun i x d h1 h2 => ?_
  by_cases hi : i < n
  · rw [List.getElem?_take_of_lt hi] at h1 h2
    obtain ⟨d', e', t⟩ := h.get h1
    rw [h2] at e'
    cases e'
    exact t
  · rw [List.getElem?_eq_none (by rw [List.length_take]; omega)] at h1
    cases h1
theorem TpAll.drop {xs : List V} {ds : List PyData} (h : TpAll K H xs ds) (n : Nat) : TpAll K H (xs.drop n) (ds.drop n) := by
  refine .of_get (by rw [List.length_drop, List.length_drop, h.length]) fun i x d h1 h2 => ?_
  rw [List.getElem?_drop] at h1 h2
  obtain ⟨d', e', t⟩ := h.get h1
  rw [h2] at e'
  cases e'
  exact t
/-- a value over strs -/
theorem TpAll.strs {xs : List V} {ns : List Str} (h : TpAll K H xs (ns.map .str)) : xs = ns.map V.str := by
  induction ns generalizing xs with
  | nil => exact h.nil_inv
  | cons n r ih =>
    obtain ⟨v, vs, rfl, h1, h2⟩ := TpAll.cons_inv h
    rw [h1.str_inv, ih h2]
    rfl
theorem tpAll_strs (ns : List Str) : TpAll K H (ns.map V.str) (ns.map .str) := by
  induction ns with
  | nil => exact .nil
  | cons n r ih => exact .cons (.str n) ih
end
/-- what a pure def hands back -/
def Rt (K : PySem.W.Frag) (H : Hp) (Q : VK) (d : PyData) : Prop := ∀ v H', Same H H' → Tp K H' v d → Q v H'

/-! ### names, expressions, rows, functions, programs -/
def letters : Str := "abcdefghijklmnopqrstuvwxyz"
def okNm (x : Str) : Bool := decide (1 ≤ x.length) && decide (x.length ≤ 8) && x.cps.toList.all fun c => decide (c ∈ letters.cps.toList)
theorem okNm_ascii : ∀ c ∈ letters.cps.toList, c < 0x110000 := by decide +kernel
theorem okNm_strOk {x : Str} (h : okNm x = true) : PyData.strOk x = true := by
  unfold okNm at h
  simp only [Bool.and_eq_true, List.all_eq_true, decide_eq_true_eq] at h
  unfold PyData.strOk
  rw [← Array.all_toList]
  simp only [List.all_eq_true, decide_eq_true_eq]
  exact fun c hc => okNm_ascii c (h.2 c hc)

inductive Ex where
  | int (i : Int)
  | nm (x : Str)
  | un (w : Str) (a : Ex)
  | bi (w : Str) (a b : Ex)
  | tri (a b c : Ex)
  deriving DecidableEq
def unW : List Str := ["not", "neg"]
def biW : List Str := ["+", "-", "*", "div", "mod", "least", "most", "=", "<", "<=", "and", "or"]
namespace Ex
def d : Ex → PyData
  | int i => .int i
  | nm x => .str x
  | un w a => .tuple [.str w, a.d]
  | bi w a b => .tuple [.str w, a.d, b.d]
  | tri a b c => .tuple [.str "if", a.d, b.d, c.d]
def depth : Ex → Nat
  | int _ => 0
  | nm _ => 0
  | un _ a => a.depth + 1
  | bi _ a b => max a.depth b.depth + 1
  | tri a b c => max a.depth (max b.depth c.depth) + 1
def ok : Ex → Bool
  | int _ => true
  | nm x => okNm x
  | un w a => decide (w ∈ unW) && a.ok
  | bi w a b => decide (w ∈ biW) && a.ok && b.ok
  | tri a b c => a.ok && b.ok && c.ok
def names : Ex → List Str
  | int _ => []
  | nm x => [x]
  | un _ a => a.names
  | bi _ a b => a.names ++ b.names
  | tri a b c => a.names ++ (b.names ++ c.names)
def fits (ns : List Str) (e : Ex) : Bool := e.names.all fun x => decide (x ∈ ns)
theorem unW_ok : ∀ w ∈ unW, PyData.strOk w = true := by decide +kernel
theorem biW_ok : ∀ w ∈ biW, PyData.strOk w = true := by decide +kernel
theorem if_ok : PyData.strOk ("if" : Str) = true := by decide +kernel
theorem lay : ∀ {e : Ex}, e.ok = true → e.d.canLay0 = true
  | int _, _ => by simp only [d, PyData.canLay0]
  | nm x, h => by simp only [d, PyData.canLay0]; exact okNm_strOk h
  | un w a, h => by
    simp only [ok, Bool.and_eq_true, decide_eq_true_eq] at h
    simp only [d, PyData.canLay0, PyData.canLayAll0, unW_ok w h.1, lay h.2, Bool.and_self]
  | bi w a b, h => by
    simp only [ok, Bool.and_eq_true, decide_eq_true_eq] at h
    simp only [d, PyData.canLay0, PyData.canLayAll0, biW_ok w h.1.1, lay h.1.2, lay h.2, Bool.and_self]
  | tri a b c, h => by
    simp only [ok, Bool.and_eq_true, decide_eq_true_eq] at h
    simp only [d, PyData.canLay0, PyData.canLayAll0, if_ok, lay h.1.1, lay h.1.2, lay h.2, Bool.and_self]
theorem dep : ∀ e : Ex, e.d.depth = e.depth
  | int _ => by simp only [d, PyData.depth, depth]
  | nm x => by simp only [d, PyData.depth, depth]
  | un w a => by simp only [d, PyData.depth, PyData.depthAll, depth, dep a]; omega
  | bi w a b => by simp only [d, PyData.depth, PyData.depthAll, depth, dep a, dep b]; omega
  | tri a b c => by simp only [d, PyData.depth, PyData.depthAll, depth, dep a, dep b, dep c]; omega
end Ex
/-- the deepest expression -/
def maxD : Nat := 8

inductive Rw where
  | set (x : Str) (e : Ex)
  | ifr (e : Ex)
  | els
  | whl (e : Ex)
  | nd
  | call (x g : Str) (as : List Ex)
  | ret (e : Ex)
  deriving DecidableEq
namespace Rw
def word : Rw → Str
  | set _ _ => "set"
  | ifr _ => "if"
  | els => "else"
  | whl _ => "while"
  | nd => "end"
  | call _ _ _ => "call"
  | ret _ => "return"
def rest : Rw → List PyData
  | set x e => [.str x, e.d]
  | ifr e => [e.d]
  | els => []
  | whl e => [e.d]
  | nd => []
  | call x g as => [.str x, .str g, .tuple (as.map Ex.d)]
  | ret e => [e.d]
def d (r : Rw) : PyData := .tuple (.str r.word :: r.rest)
def parts : Rw → List Ex
  | set _ e => [e]
  | ifr e => [e]
  | els => []
  | whl e => [e]
  | nd => []
  | call _ _ as => as
  | ret e => [e]
def nms : Rw → List Str
  | set x _ => [x]
  | call x g _ => [x, g]
  | _ => []
/-- a row by kind -/
def ok (r : Rw) : Bool := r.nms.all okNm && r.parts.all fun e => e.ok && decide (e.depth ≤ maxD)
end Rw
structure Vr where
  x : Str
  lo : Int
  hi : Int
  deriving DecidableEq
def Vr.d (v : Vr) : PyData := .tuple [.str v.x, .int v.lo, .int v.hi]
structure Fnc where
  nm : Str
  lo : Int
  hi : Int
  vars : List Vr
  many : Nat
  rows : List Rw
  deriving DecidableEq
namespace Fnc
def names (f : Fnc) : List Str := f.vars.map (·.x)
def d (f : Fnc) : PyData := .tuple [.str f.nm, .int f.lo, .int f.hi, .tuple (f.vars.map Vr.d), .int f.many, .tuple (f.rows.map Rw.d)]
end Fnc
structure Pg where
  fns : List Fnc
  first : Str
  most : Int
  deriving DecidableEq
def Pg.d (p : Pg) : PyData := .tuple [.tuple (p.fns.map Fnc.d), .str p.first, .int p.most]

/-! ### these data can be laid, and are not too deep -/
theorem shaped_of {d : PyData} (h : d.canLay0 = true) (k : d.depth ≤ 64) : SeqAt.shaped d = true := by
  unfold SeqAt.shaped
  rw [h, decide_eq_true k]
  rfl
theorem layAll {ds : List PyData} (h : ∀ d ∈ ds, d.canLay0 = true) : PyData.canLayAll0 ds = true := by
  induction ds with
  | nil => simp only [PyData.canLayAll0]
  | cons d r ih => simp only [PyData.canLayAll0, h d List.mem_cons_self, ih fun z hz => h z (List.mem_cons_of_mem _ hz), Bool.and_self]
theorem depAll {ds : List PyData} {n : Nat} (h : ∀ d ∈ ds, d.depth ≤ n) : PyData.depthAll ds ≤ n := by
  induction ds with
  | nil => simp only [PyData.depthAll]; omega
  | cons d r ih =>
    have h1 := h d List.mem_cons_self
    have h2 := ih fun z hz => h z (List.mem_cons_of_mem _ hz)
    simp only [PyData.depthAll]
    omega
theorem layT {ds : List PyData} (h : ∀ d ∈ ds, d.canLay0 = true) : PyData.canLay0 (.tuple ds) = true := by
  simp only [PyData.canLay0]
  exact layAll h
theorem depT {ds : List PyData} {n : Nat} (h : ∀ d ∈ ds, d.depth ≤ n) : PyData.depth (.tuple ds) ≤ n + 1 := by
  simp only [PyData.depth]
  have := depAll h
  omega
theorem lay_str {x : Str} (h : okNm x = true) : PyData.canLay0 (.str x) = true := by
  simp only [PyData.canLay0]
  exact okNm_strOk h
theorem Rw.word_ok : ∀ r : Rw, PyData.strOk r.word = true
  | .set _ _ => (by decide +kernel : PyData.strOk ("set" : Str) = true)
  | .ifr _ => (by decide +kernel : PyData.strOk ("if" : Str) = true)
  | .els => (by decide +kernel : PyData.strOk ("else" : Str) = true)
  | .whl _ => (by decide +kernel : PyData.strOk ("while" : Str) = true)
  | .nd => (by decide +kernel : PyData.strOk ("end" : Str) = true)
  | .call _ _ _ => (by decide +kernel : PyData.strOk ("call" : Str) = true)
  | .ret _ => (by decide +kernel : PyData.strOk ("return" : Str) = true)
theorem Rw.rest_lay {r : Rw} (h : r.ok = true) : ∀ d ∈ r.rest, d.canLay0 = true := by
  unfold Rw.ok at h
  simp only [Bool.and_eq_true, List.all_eq_true, decide_eq_true_eq] at h
  obtain ⟨h1, h2⟩ := h
  cases r with
  | set x e =>
    intro d hd
    have hx : okNm x = true := h1 x (by simp [Rw.nms])
    have he := (h2 e (by simp [Rw.parts])).1
    simp only [Rw.rest, List.mem_cons, List.not_mem_nil, or_false] at hd
    rcases hd with rfl | rfl
    · exact lay_str hx
    · exact Ex.lay he
  | ifr e =>
    intro d hd
    simp only [Rw.rest, List.mem_cons, List.not_mem_nil, or_false] at hd
    subst hd
    exact Ex.lay (h2 e (by simp [Rw.parts])).1
  | els => intro d hd; cases hd
  | whl e =>
    intro d hd
    simp only [Rw.rest, List.mem_cons, List.not_mem_nil, or_false] at hd
    subst hd
    exact Ex.lay (h2 e (by simp [Rw.parts])).1
  | nd => intro d hd; cases hd
  | call x g as =>
    intro d hd
    simp only [Rw.rest, List.mem_cons, List.not_mem_nil, or_false] at hd
    rcases hd with rfl | rfl | rfl
    · exact lay_str (h1 x (by simp [Rw.nms]))
    · exact lay_str (h1 g (by simp [Rw.nms]))
    · refine layT fun d hd => ?_
      obtain ⟨e, he, rfl⟩ := List.mem_map.mp hd
      exact Ex.lay (h2 e he).1
  | ret e =>
    intro d hd
    simp only [Rw.rest, List.mem_cons, List.not_mem_nil, or_false] at hd
    subst hd
    exact Ex.lay (h2 e (by simp [Rw.parts])).1
theorem Rw.rest_dep {r : Rw} (h : r.ok = true) : ∀ d ∈ r.rest, d.depth ≤ maxD + 1 := by
  unfold Rw.ok at h
  simp only [Bool.and_eq_true, List.all_eq_true, decide_eq_true_eq] at h
  have h2 : ∀ e ∈ r.parts, e.d.depth ≤ maxD := fun e he => by rw [Ex.dep]; exact (h.2 e he).2
  have hs : ∀ x : Str, PyData.depth (.str x) ≤ maxD + 1 := fun x => by simp only [PyData.depth]; omega
  cases r with
  | set x e =>
    intro d hd
    simp only [Rw.rest, List.mem_cons, List.not_mem_nil, or_false] at hd
    rcases hd with rfl | rfl
    · exact hs x
    · exact Nat.le_succ_of_le (h2 e (by simp [Rw.parts]))
  | ifr e =>
    intro d hd
    simp only [Rw.rest, List.mem_cons, List.not_mem_nil, or_false] at hd
    subst hd
    exact Nat.le_succ_of_le (h2 e (by simp [Rw.parts]))
  | els => intro d hd; cases hd
  | whl e =>
    intro d hd
    simp only [Rw.rest, List.mem_cons, List.not_mem_nil, or_false] at hd
    subst hd
    exact Nat.le_succ_of_le (h2 e (by simp [Rw.parts]))
  | nd => intro d hd; cases hd
  | call x g as =>
    intro d hd
    simp only [Rw.rest, List.mem_cons, List.not_mem_nil, or_false] at hd
    rcases hd with rfl | rfl | rfl
    · exact hs x
    · exact hs g
    · refine depT fun d hd => ?_
      obtain ⟨e, he, rfl⟩ := List.mem_map.mp hd
      exact h2 e he
  | ret e =>
    intro d hd
    simp only [Rw.rest, List.mem_cons, List.not_mem_nil, or_false] at hd
    subst hd
    exact Nat.le_succ_of_le (h2 e (by simp [Rw.parts]))
theorem Rw.lay {r : Rw} (h : r.ok = true) : r.d.canLay0 = true := layT fun d hd => by
  rcases List.mem_cons.mp hd with rfl | hd
  · simp only [PyData.canLay0]; exact r.word_ok
  · exact Rw.rest_lay h d hd
theorem Rw.dep {r : Rw} (h : r.ok = true) : r.d.depth ≤ maxD + 2 := depT fun d hd => by
  rcases List.mem_cons.mp hd with rfl | hd
  · simp only [PyData.depth]; omega
  · exact Rw.rest_dep h d hd
end B9

/-! What the top has written; comprehensions that keep a relation; the kinds. -/
namespace B9
open PySem PySem.Spec PyProof.Rows L2
open RZ (ItzT pi_zipA iZipA)

/-! ### the facts of the top -/
def DefAt (K : PySem.W.Frag) (mg : Str → Option Value) (x : Str) (st : Stmt) (ps : List Str) : Prop := ∃ f fd, Fun K x x st f fd ∧ Binds K fd ps [] ∧ mg x = some (.ref f)
/-- a tuple of the written part -/
def TupK (K : PySem.W.Frag) (a : Addr) (xs : List V) : Prop := ∃ (o : Obj) (its : Array Value) (n : Nat), K.lookup a = some o ∧ o.cls = .type "tuple" ∧ o.data = .seq its n ∧ its.size ≤ sizeLine ∧ Vals xs its.toList
theorem TupK.sq {K : PySem.W.Frag} {a : Addr} {xs : List V} {H : Hp} (t : TupK K a xs) : SqT K H a xs := .inr t
/-- in the written dict d stands at x a tuple of these -/
def InD (K : PySem.W.Frag) (w : World) (d : Addr) (x : Str) (xs : List V) : Prop := ∃ t, PySem.W.nsIn K d x = some (some (.ref t)) ∧ TupK K t xs
structure Dfs (w : World) (K : PySem.W.Frag) (mg : Str → Option Value) : Prop where
  f_is_integer : DefAt K mg "is_integer" s_is_integer ["thing"]
  f_is_number : DefAt K mg "is_number" s_is_number ["thing"]
  f_is_name : DefAt K mg "is_name" s_is_name ["thing"]
  f_is_tuple_with : DefAt K mg "is_tuple_with" s_is_tuple_with ["thing", "checks"]
  f_is_tuple_of : DefAt K mg "is_tuple_of" s_is_tuple_of ["thing", "check"]
  f_has_variable_shape : DefAt K mg "has_variable_shape" s_has_variable_shape ["thing"]
  f_is_worded : DefAt K mg "is_worded" s_is_worded ["thing"]
  f_is_expression : DefAt K mg "is_expression" s_is_expression ["thing"]
  f_are_expressions : DefAt K mg "are_expressions" s_are_expressions ["thing"]
  f_is_row : DefAt K mg "is_row" s_is_row ["thing"]
  f_names_in : DefAt K mg "names_in" s_names_in ["e"]
  f_fits : DefAt K mg "fits" s_fits ["names", "thing"]
  f_require : DefAt K mg "require" s_require ["condition", "word", "at"]
  f_are_variable_shapes : DefAt K mg "are_variable_shapes" s_are_variable_shapes ["thing"]
  f_are_rows : DefAt K mg "are_rows" s_are_rows ["thing"]
  f_is_function_shape : DefAt K mg "is_function_shape" s_is_function_shape ["thing"]
  f_are_function_shapes : DefAt K mg "are_function_shapes" s_are_function_shapes ["thing"]
  f_check_variables : DefAt K mg "check_variables" s_check_variables ["k", "function"]
  f_row_fits : DefAt K mg "row_fits" s_row_fits ["row", "names", "counts"]
  f_check_block : DefAt K mg "check_block" s_check_block ["row", "r", "opened", "at"]
  f_check_rows : DefAt K mg "check_rows" s_check_rows ["k", "function", "counts"]
  f_places_in_row : DefAt K mg "places_in_row" s_places_in_row ["row"]
  f_lets_program : DefAt K mg "lets_program" s_lets_program ["thing"]
  f_function_of : DefAt K mg "function_of" s_function_of ["program", "name"]
  f_places_of_function : DefAt K mg "places_of_function" s_places_of_function ["function"]
  f_places_of : DefAt K mg "places_of" s_places_of ["program"]
  f_is_place : DefAt K mg "is_place" s_is_place ["program", "thing"]
  f_function_at : DefAt K mg "function_at" s_function_at ["program", "place"]
  f_names_at : DefAt K mg "names_at" s_names_at ["program", "place"]
  f_range_of : DefAt K mg "range_of" s_range_of ["program", "place"]
  f_expression_at : DefAt K mg "expression_at" s_expression_at ["program", "place"]
  f_jumps_of : DefAt K mg "jumps_of" s_jumps_of ["rows"]
  f__law_feed : DefAt K mg "_law_feed" s__law_feed ["_law_script"]
  f__law_draw : DefAt K mg "_law_draw" s__law_draw ["_law_feed_here", "_law_many"]
  f__law_sizes : DefAt K mg "_law_sizes" s__law_sizes []
  f__law_parts : DefAt K mg "_law_parts" s__law_parts ["_law_row"]
  f__law_leaf : DefAt K mg "_law_leaf" s__law_leaf ["_law_feed_here", "_law_names"]
  f__law_formula : DefAt K mg "_law_formula" s__law_formula ["_law_feed_here", "_law_names", "_law_deep"]
  f__law_variables : DefAt K mg "_law_variables" s__law_variables ["_law_feed_here"]
  f__law_heads : DefAt K mg "_law_heads" s__law_heads ["_law_feed_here"]
  f__law_plain_row : DefAt K mg "_law_plain_row" s__law_plain_row ["_law_feed_here", "_law_names", "_law_heads_here", "_law_way"]
  f__law_block : DefAt K mg "_law_block" s__law_block ["_law_feed_here", "_law_names", "_law_heads_here", "_law_deep", "_law_left"]
  f__law_program : DefAt K mg "_law_program" s__law_program ["_law_feed_here"]
  f__law_first_program : DefAt K mg "_law_first_program" s__law_first_program []
  f__law_word_program : DefAt K mg "_law_word_program" s__law_word_program []
  f__law_samples : DefAt K mg "_law_samples" s__law_samples []
  f__law_place_right : DefAt K mg "_law_place_right" s__law_place_right ["_law_program_here", "_law_place"]
  f__law_jumps_right : DefAt K mg "_law_jumps_right" s__law_jumps_right ["_law_rows"]
  f__law_ends_right : DefAt K mg "_law_ends_right" s__law_ends_right ["_law_rows", "_law_jumps", "_law_r"]
  f__law_inside_right : DefAt K mg "_law_inside_right" s__law_inside_right ["_law_rows"]
  f_law : DefAt K mg "law" s_law ["_law_script"]
  b_isinstance : mg "isinstance" = none
  b_int : mg "int" = none
  b_bool : mg "bool" = none
  b_str : mg "str" = none
  b_tuple : mg "tuple" = none
  b_list : mg "list" = none
  b_dict : mg "dict" = none
  b_len : mg "len" = none
  b_all : mg "all" = none
  b_zip : mg "zip" = none
  b_enumerate : mg "enumerate" = none
  b_range : mg "range" = none
  b_sum : mg "sum" = none
  b_sorted : mg "sorted" = none
  b_max : mg "max" = none
  c_LETTERS : ∃ t, mg "LETTERS" = some (.str letters t)
  c_LONGEST_NAME : ∃ t, mg "LONGEST_NAME" = some (.int 8 t)
  c_SHAPES : ∃ d es n f, mg "SHAPES" = some (.ref d) ∧ KDict K w d es n ∧ mg "is_expression" = some (.ref f) ∧ (∀ x ∈ unW, InD K w d x [.ref f]) ∧ (∀ x ∈ biW, InD K w d x [.ref f, .ref f]) ∧ InD K w d "if" [.ref f, .ref f, .ref f]
  c_ROW_SHAPES : ∃ d es n f g h, mg "ROW_SHAPES" = some (.ref d) ∧ KDict K w d es n ∧ mg "is_expression" = some (.ref f) ∧ mg "is_name" = some (.ref g) ∧ mg "are_expressions" = some (.ref h) ∧
    InD K w d "set" [.ref g, .ref f] ∧ InD K w d "if" [.ref f] ∧ InD K w d "else" [] ∧ InD K w d "while" [.ref f] ∧ InD K w d "end" [] ∧ InD K w d "call" [.ref g, .ref g, .ref h] ∧ InD K w d "return" [.ref f]
section
variable {P : Program} {w : World} {K : PySem.W.Frag} {mg : Str → Option Value} {base : Heap}
/-- THE RULE for a def by name: its body's term and reading -/
theorem DefAt.has {x : Str} {st : Stmt} {ps N : List Str} {k : Nat} {sp : Sp} (h : DefAt K mg x st ps) (S : FnScope N ps (defScope st)) (len : ∀ vs H Q E, sp vs H Q E → vs.length = ps.length)
    (hbody : ∀ (f : Addr) (cdv : Value) (A : Around) (outer : List Env) (s : Shared) (H : Hp) (vs : List V) (Q : VK) (E : XK), Room k (A.deeper (envOfC x (defScope st) s.heap.objs.size f cdv)) → sp vs H Q E →
      ∃ t, PSs (cxOf CX0 P w K mg base N x (defScope st) f cdv A outer s H E).nox (defBody st) t ∧ t { nx := fun _ H' => Q .non H', rt := Q } (start N vs) H) : Has P w K mg base (k + 1) x sp := by
  obtain ⟨f, fd, F, b, g⟩ := h
  exact ⟨f, g, fd, ps, F.ok S len fun cdv A outer s H vs Q E hr hs => hbody f cdv A outer s H vs Q E hr hs, F.kp, b⟩
end

/-- a built-in class as a value -/
theorem pe_ty {X : Cx} {n : String} {x : Str} {pos : Pos} (hg : Gl X x) (hm : X.mg x = none) (hv : bootBuiltins x = some (.type n)) (hn : x ≠ "__name__" := by decide) (hd : (x == ("__debug__" : Str)) = false := by decide) : PE X (.Name x pos) (tC (.ty n)) :=
  pe_bltn hg hm hv rfl hn hd

/-! ### types of data -/
def tyOf : PyData → Value
  | .none => .type "NoneType"
  | .bool _ => .type "bool"
  | .int _ => .type "int"
  | .str _ => .type "str"
  | .list _ => .type "list"
  | .tuple _ => .type "tuple"
  | .dict _ => .type "dict"
theorem Tp.ty {K : PySem.W.Frag} {H : Hp} {v : V} {d : PyData} (h : Tp K H v d) : TyX K H v (tyOf d) := by
  cases h with
  | non => exact .base .non
  | bl b => exact .base (.bl b)
  | int i => exact .base (.int i)
  | str x => exact .base (.str x)
  | tup hs ha =>
    rcases hs with (hs | ⟨o, hs⟩) | ⟨o, its, n, hk, hc, _⟩
    · exact .base (.tup hs)
    · exact .fTuple hs
    · exact .kTuple hk hc
def isI : PyData → Bool
  | .int _ => true
  | _ => false
def isB : PyData → Bool
  | .bool _ => true
  | _ => false
def isS : PyData → Bool
  | .str _ => true
  | _ => false
def isT : PyData → Bool
  | .tuple _ => true
  | _ => false
section
variable {K : PySem.W.Frag} {H : Hp} {v : V} {d : PyData}
theorem kit_int (h : Tp K H v d) : PySem.W.kitOne K (tyOf d) (.type "int") = some (isI d || isB d) := by
  cases h <;> first | exact kit_ty (r := true) (by decide +kernel) | exact kit_ty (r := false) (by decide +kernel)
theorem kit_bool (h : Tp K H v d) : PySem.W.kitOne K (tyOf d) (.type "bool") = some (isB d) := by
  cases h <;> first | exact kit_ty (r := true) (by decide +kernel) | exact kit_ty (r := false) (by decide +kernel)
theorem kit_str (h : Tp K H v d) : PySem.W.kitOne K (tyOf d) (.type "str") = some (isS d) := by
  cases h <;> first | exact kit_ty (r := true) (by decide +kernel) | exact kit_ty (r := false) (by decide +kernel)
theorem kit_tup (h : Tp K H v d) : PySem.W.kitOne K (tyOf d) (.type "tuple") = some (isT d) := by
  cases h <;> first | exact kit_ty (r := true) (by decide +kernel) | exact kit_ty (r := false) (by decide +kernel)
end

/-! ### a comprehension's list, item by item -/
/-- F stands, the list at D holds i items, each by R -/
def PvG (F : Hp → Prop) (D : Addr) (R : Nat → V → Hp → Prop) (i : Nat) (H : Hp) : Prop := F H ∧ ∃ ys : List V, H D = some (.lst ys) ∧ ys.length = i ∧ ∀ (j : Nat) (y : V), ys[j]? = some y → R j y H
section
variable {K : PySem.W.Frag} {F : Hp → Prop} {D : Addr} {R : Nat → V → Hp → Prop} {i : Nat} {H H' H1 : Hp} {v : V}
theorem PvG.zero (h : F (upd H1 D (.lst []))) : PvG F D R 0 (upd H1 D (.lst [])) := ⟨h, [], upd_same, rfl, fun j y e => by simp at e⟩
theorem big6 : (1000000 : Nat) < sizeLine := by rw [sizeLine_eq]; decide
theorem PvG.step (hR : ∀ i v H H', TSm K H H' → R i v H → R i v H') (p : PvG F D R i H) (hi : i < 1000000) (t : TSm K H H') (hD : ∀ ys, H D = some (.lst ys) → H' D = some (.lst ys)) (hF : ∀ ys, F (upd H' D (.lst ys))) (r : R i v H') :
    ∃ acc, H' D = some (.lst acc) ∧ acc.length < sizeLine ∧ PvG F D R (i + 1) (upd H' D (.lst (acc ++ [v]))) := by
  obtain ⟨f, ys, e, hl, h⟩ := p
  have e' := hD ys e
  refine ⟨ys, e', by rw [hl]; exact Nat.lt_trans hi big6, hF _, ys ++ [v], upd_same, by simp [hl], fun j y q => ?_⟩
  have t2 : TSm K H' (upd H' D (.lst (ys ++ [v]))) := tsm_upd e' rfl
  rcases Nat.lt_or_ge j ys.length with hj | hj
  · rw [List.getElem?_append_left hj] at q
    exact hR _ _ _ _ (t.trans t2) (h j y q)
  · rw [List.getElem?_append_right hj] at q
    have ej : j - ys.length = 0 := by
      cases hz : j - ys.length with
      | zero => rfl
      | succ n => rw [hz] at q; simp at q
    rw [ej] at q
    cases q
    have : j = i := by omega
    subst this
    exact hR _ _ _ _ t2 r
/-- the plain frame: all that stood ahead stands -/
abbrev PvM (H1 : Hp) := PvG (Same H1)
theorem same_at {H1 H' : Hp} {D : Addr} {o : HO} (n : H1 D = none) (s : Same H1 H') : Same H1 (upd H' D o) := fun b x e => by
  rw [upd_ne (ne_of_none e n)]
  exact s b x e
theorem PvM.zero (n : H1 D = none) : PvM H1 D R 0 (upd H1 D (.lst [])) := PvG.zero (same_upd n)
theorem PvM.step (hR : ∀ i v H H', TSm K H H' → R i v H → R i v H') (n : H1 D = none) (p : PvM H1 D R i H) (hi : i < 1000000) (s : Same H H') (r : R i v H') :
    ∃ acc, H' D = some (.lst acc) ∧ acc.length < sizeLine ∧ PvM H1 D R (i + 1) (upd H' D (.lst (acc ++ [v]))) :=
  PvG.step hR p hi s.tsm (fun ys e => s _ _ e) (fun ys => same_at n (p.1.trans s)) r
end
/-- all items are True -/
def RTrue : Nat → V → Hp → Prop := fun _ v _ => v = .bl true
theorem allTrue {ys : List V} {H : Hp} (h : ∀ (j : Nat) (y : V), ys[j]? = some y → RTrue j y H) : ∃ bs : List Bool, ys = bs.map V.bl ∧ bs.all id = true := by
  refine ⟨ys.map fun _ => true, ?_, by simp⟩
  rw [List.map_map]
  refine (List.map_id ys).symm.trans (List.map_congr_left fun y hy => ?_)
  obtain ⟨j, hj, e⟩ := List.getElem_of_mem hy
  exact h j y (by rw [List.getElem?_eq_getElem hj, e])
/-- the list of an all(..) -/
theorem PvG.trues {F : Hp → Prop} {D : Addr} {n : Nat} {H : Hp} (p : PvG F D RTrue n H) : ∃ bs : List Bool, H D = some (.lst (bs.map V.bl)) ∧ bs.all id = true := by
  obtain ⟨_, ys, e, _, h⟩ := p
  obtain ⟨bs, rfl, hb⟩ := allTrue h
  exact ⟨bs, e, hb⟩

section
variable {P : Program} {w : World} {K : PySem.W.Frag} {mg : Str → Option Value} {base : Heap}
/-! ### is_integer, is_number, is_name -/
def spIsInt (K : PySem.W.Frag) : Sp := fun vs H Q _ => ∃ v d, vs = [v] ∧ Tp K H v d ∧ Q (.bl (isI d)) H
theorem h_is_integer (D : Dfs w K mg) : Has P w K mg base 1 "is_integer" (spIsInt K) := by
  refine D.f_is_integer.has sc_is_integer (fun vs H Q E h => ?_) (fun f cdv A outer s H vs Q E hr h => ?_)
  · obtain ⟨v, d, rfl, _⟩ := h
    rfl
  · obtain ⟨v, d, rfl, hd, q⟩ := h
    refine ⟨_, (pss_one (ps_ret (pe_and (pe_callB call_isi (by rfl) D.b_isinstance (by decide +kernel) (pa_cons (pv 0) (pa_cons (pe_ty (n := "int") (by rfl) D.b_int (by decide +kernel)) pa_nil))) (pe_one (pe_not (pe_callB call_isi (by rfl) D.b_isinstance (by decide +kernel) (pa_cons (pv 0) (pa_cons (pe_ty (n := "bool") (by rfl) D.b_bool (by decide +kernel)) pa_nil)))))))), ?_⟩
    refine ⟨_, rfl, _, _, _, _, _, rfl, .ty _, hd.ty, kit_int hd, _, rfl, ?_⟩
    refine ite2 (fun c => ?_) (fun c => ?_)
    · refine ⟨_, rfl, _, _, _, _, _, rfl, .ty _, hd.ty, kit_bool hd, _, rfl, ?_⟩
      have e : (!isB d) = isI d := by cases d <;> first | rfl | (simp [isI, isB] at c)
      rw [e]
      exact q
    · have e : false = isI d := by cases d <;> first | rfl | (exact absurd rfl c)
      rw [e]
      exact q
def spIsNum (K : PySem.W.Frag) : Sp := fun vs H Q _ => ∃ i : Int, vs = [.int i] ∧ Q (.bl (decide (0 ≤ i))) H
theorem h_is_number (D : Dfs w K mg) : Has P w K mg base 2 "is_number" (spIsNum K) := by
  refine D.f_is_number.has sc_is_number (fun vs H Q E h => ?_) (fun f cdv A outer s H vs Q E hr h => ?_)
  · obtain ⟨i, rfl, _⟩ := h
    rfl
  · obtain ⟨i, rfl, q⟩ := h
    refine ⟨_, (pss_one (ps_ret (pe_and (pc (h_is_integer D) hr (pa_cons (pv 0) pa_nil)) (pe_one (pe_cmpR op_ge (pv 0) pe_int (nomark _)))))), ?_⟩
    exact ⟨_, rfl, _, _, rfl, .int i, _, rfl, iteT ⟨_, rfl, _, _, rfl, rfl, q⟩⟩
def spIsName (K : PySem.W.Frag) : Sp := fun vs H Q _ => ∃ v d, vs = [v] ∧ Tp K H v d ∧ (∀ x, d = .str x → okNm x = true) ∧ ∀ H', Same H H' → Q (.bl (isS d)) H'
theorem h_is_name (D : Dfs w K mg) : Has P w K mg base 1 "is_name" (spIsName K) := by
  refine D.f_is_name.has sc_is_name (fun vs H Q E h => ?_) (fun f cdv A outer s H vs Q E hr h => ?_)
  · obtain ⟨v, d, rfl, _⟩ := h
    rfl
  · obtain ⟨v, d, rfl, hd, hok, q⟩ := h
    obtain ⟨tL, gL⟩ := D.c_LETTERS
    obtain ⟨t8, g8⟩ := D.c_LONGEST_NAME
    refine ⟨_, (pss_cons (ps_if (PW.pt (pw_or (pt_not (pt_val (pe_callB call_isi (by rfl) D.b_isinstance (by decide +kernel) (pa_cons (pv 0) (pa_cons (pe_ty (n := "str") (by rfl) D.b_str (by decide +kernel)) pa_nil))))) (pw_or1 (pt_not (pt_chain op_le op_le pe_int (pe_callB call_len (by rfl) D.b_len (by decide +kernel) (pa_cons (pv 0) pa_nil)) (pe_glob (v := .int 8) (by rfl) g8 ⟨_, rfl⟩)))))) (pss_one (ps_ret pe_bl)) pss_nil)
      (pss_one (ps_ret (pe_callB (cr_all rfl) (by rfl) D.b_all (by decide +kernel) (pa_cons (pe_lc (own := [("char", 1)]) (by rfl) sc_is_name.nd (pi_str (pv 0)) (blkOk_by (own := [("char", 1)]) (N := N_is_name) (sc := defScope s_is_name) (by decide +kernel)) (fun _ _ _ _ _ => (pg_name (i := 1) sc_is_name.nd rfl (Or.inl rfl))) (fun _ _ _ _ _ => pts_nil) (fun _ _ _ _ _ => (pe_cmpR op_in_sign (pv 1) (pe_glob (v := .str letters) (by rfl) gL ⟨_, rfl⟩) (by rfl)))) pa_nil))))), ?_⟩
    refine ⟨_, rfl, _, _, _, _, _, rfl, .ty _, hd.ty, kit_str hd, _, rfl, ?_⟩
    cases hs : isS d with
    | false =>
      rw [hs] at q
      exact iteT (iteT (q H (Same.refl H)))
    | true =>
      obtain ⟨x, rfl⟩ : ∃ x, d = .str x := by cases d <;> first | exact ⟨_, rfl⟩ | cases hs
      have hx := hok x rfl
      obtain rfl := hd.str_inv
      have hx' := hx
      unfold okNm at hx'
      simp only [Bool.and_eq_true, List.all_eq_true, decide_eq_true_eq] at hx'
      obtain ⟨⟨h1, h8⟩, hc⟩ := hx'
      have hzl : x.length ≤ sizeLine := Nat.le_of_lt (Nat.lt_trans (Nat.lt_of_le_of_lt h8 (by decide : (8 : Nat) < 1000000)) big6)
      refine iteF ⟨_, rfl, _, x.length, rfl, ⟨hzl, rfl⟩, 1, (x.length : Int), rfl, rfl, _, rfl, ?_⟩
      refine ite2 (fun _ => ?_) (fun c => absurd (decide_eq_true (show (1 : Int) ≤ x.length by omega)) c)
      refine ⟨_, _, rfl, rfl, _, rfl, ?_⟩
      have e8 : decide ((x.length : Int) ≤ 8) = true := decide_eq_true (by omega)
      show if (!decide ((x.length : Int) ≤ 8)) = true then _ else _
      rw [e8]
      refine iteF ?_
      refine ⟨_, rfl, x, rfl, fun Dn nD => ?_⟩
      have hR : ∀ (i : Nat) (v : V) (H H' : Hp), TSm K H H' → RTrue i v H → RTrue i v H' := fun _ _ _ _ _ h => h
      have hlen : x.length = x.cps.size := rfl
      refine ⟨fun i m H' => PvM H Dn RTrue i H' ∧ i ≤ x.cps.size ∧ m = x.cps.size - i, ⟨x.cps.size, PvM.zero nD, Nat.zero_le _, rfl⟩, ?_⟩
      rintro i m H3 ⟨p, hi, rfl⟩
      by_cases hlt : i < x.cps.size
      · refine .inr ⟨hlt, fun H' => PvM H Dn RTrue (i + 1) H', fun H' p' => ⟨x.cps.size - (i + 1), by omega, p', hlt, rfl⟩, fun v H' y => ?_⟩
        obtain ⟨rfl, c, ec, rfl⟩ := y
        refine ⟨rfl, _, rfl, c, letters, rfl, rfl, ?_⟩
        have hm : c ∈ letters.cps.toList := hc c (by
          rw [← Array.getElem?_toList] at ec
          exact List.mem_of_getElem? ec)
        rw [decide_eq_true hm]
        exact PvM.step hR nD p (by omega) (Same.refl _) rfl
      · obtain ⟨bs, eb, hb⟩ := p.trues
        refine .inl ⟨by show x.cps.size ≤ i; omega, Dn, bs, rfl, .of eb, ?_⟩
        rw [hb]
        exact q _ p.1
/-! ### tuples by checks -/
theorem sqT_ty {K : PySem.W.Frag} {H : Hp} {a : Addr} {xs : List V} (hs : SqT K H a xs) : TyX K H (.ref a) (.type "tuple") := by
  rcases hs with (hs | ⟨o, hs⟩) | ⟨o, its, n, hk, hc, _⟩
  · exact .base (.tup hs)
  · exact .fTuple hs
  · exact .kTuple hk hc
theorem kit_tt {K : PySem.W.Frag} : PySem.W.kitOne K (.type "tuple") (.type "tuple") = some true := kit_ty (by decide +kernel)
theorem RTrue.mono (K : PySem.W.Frag) : ∀ (i : Nat) (v : V) (H H' : Hp), TSm K H H' → RTrue i v H → RTrue i v H' := fun _ _ _ _ _ h => h
variable (P w K mg base) in
/-- the def c says True of x, in whatever heap behind H -/
def ChkOk (k : Nat) (c x : V) (H : Hp) : Prop := ∃ f sp, c = .ref f ∧ Hl P w K mg base k f sp ∧ ∀ H1 Q, Same H H1 → (∀ H2, Same H1 H2 → Q (.bl true) H2) → sp [x] H1 Q E0
variable (P w K mg base) in
def spTW (k : Nat) : Sp := fun vs H Q _ => ∃ p cp xs cs, vs = [.ref p, .ref cp] ∧ SqT K H p xs ∧ SqT K H cp cs ∧ xs.length = cs.length ∧ xs.length ≤ 1000 ∧
  (∀ (i : Nat) (x c : V), xs[i]? = some x → cs[i]? = some c → ChkOk P w K mg base k c x H) ∧ ∀ H', Same H H' → Q (.bl true) H'
theorem h_is_tuple_with (D : Dfs w K mg) (k : Nat) : Has P w K mg base (k + 1) "is_tuple_with" (spTW P w K mg base k) := by
  refine D.f_is_tuple_with.has sc_is_tuple_with (fun vs H Q E h => ?_) (fun f cdv A outer s H vs Q E hr h => ?_)
  · obtain ⟨p, cp, xs, cs, rfl, _⟩ := h
    rfl
  · obtain ⟨p, cp, xs, cs, rfl, hS, hC, hl, hz, hchk, q⟩ := h
    refine ⟨_, (pss_cons (ps_if (PW.pt (pw_or (pt_not (pt_val (pe_callB call_isi (by rfl) D.b_isinstance (by decide +kernel) (pa_cons (pv 0) (pa_cons (pe_ty (n := "tuple") (by rfl) D.b_tuple (by decide +kernel)) pa_nil))))) (pw_or1 (pt_cmpR op_ne (pe_callB call_len (by rfl) D.b_len (by decide +kernel) (pa_cons (pv 0) pa_nil)) (pe_callB call_len (by rfl) D.b_len (by decide +kernel) (pa_cons (pv 1) pa_nil)) (nomark _))))) (pss_one (ps_ret pe_bl)) pss_nil)
      (pss_one (ps_ret (pe_callB (cr_all rfl) (by rfl) D.b_all (by decide +kernel) (pa_cons (pe_lc (own := [("check", 2), ("part", 3)]) (g := gTup K 2 (gCons (gName 2) (gCons (gName 3) gNil))) (te := tPcv P w K mg base k 2 (tCons (tVar 3) tNil)) (by rfl) sc_is_tuple_with.nd (pi_zipA (by rfl) D.b_zip (pa_cons (pv 1) (pa_cons (pv 0) pa_nil))) (blkOk_by (own := [("check", 2), ("part", 3)]) (N := N_is_tuple_with) (sc := defScope s_is_tuple_with) (by decide +kernel)) (fun _ _ _ _ _ => (pg_tup rfl (pgs_cons (pg_name (i := 2) sc_is_tuple_with.nd rfl (Or.inl rfl)) (pgs_cons (pg_name (i := 3) sc_is_tuple_with.nd rfl (Or.inl rfl)) pgs_nil)))) (fun _ _ _ _ _ => pts_nil) (fun _ _ _ _ _ => (pcv 2 hr (pa_cons (pv 3) pa_nil)))) pa_nil))))), ?_⟩
    refine ⟨_, rfl, _, _, _, _, _, rfl, .ty _, sqT_ty hS, kit_tt, _, rfl, _, rfl, _, _, rfl, .inr ⟨xs, hS, rfl⟩, _, rfl, _, _, rfl, .inr ⟨cs, hC, rfl⟩, rfl, _, rfl, ?_⟩
    refine iteNS (by rw [hl]) ?_
    refine ⟨_, rfl, _, rfl, cp, p, cs, xs, rfl, .inr ⟨hC, hS, fun Dn nD => ?_⟩⟩
    refine lc_zipT (K := K) (a := cp) (b := p) (xs := cs) (ys := xs) hl.symm (PvM H Dn RTrue) (PvM.zero nD) (fun i H' p => ⟨p.1.tsm _ _ hC, p.1.tsm _ _ hS⟩) (fun i c x T H3 hc hx p nT => ?_) (fun H3 p => ?_)
    · obtain ⟨fc, sp, rfl, hf, hs⟩ := hchk i x c hx hc
      have s3 : Same H3 (upd H3 T (.tup [.ref fc, x])) := same_upd nT
      refine ⟨T, [.ref fc, x], rfl, .of upd_same, rfl, .ref fc, [x], rfl, x, [], rfl, rfl, rfl, fc, sp, rfl, hf, _, rfl, ?_⟩
      exact hs _ _ (p.1.trans s3) fun H4 s4 => PvM.step (RTrue.mono K) nD p (by have := (List.getElem?_eq_some_iff.mp hx).1; omega) (s3.trans s4) rfl
    · obtain ⟨bs, eb, hb⟩ := p.trues
      refine ⟨Dn, bs, rfl, .of eb, ?_⟩
      rw [hb]
      exact q _ p.1
variable (P w K mg base) in
def spTO (k : Nat) : Sp := fun vs H Q _ => ∃ p c xs, vs = [.ref p, c] ∧ SqT K H p xs ∧ xs.length ≤ 1000 ∧ (∀ (i : Nat) (x : V), xs[i]? = some x → ChkOk P w K mg base k c x H) ∧ ∀ H', Same H H' → Q (.bl true) H'
theorem h_is_tuple_of (D : Dfs w K mg) (k : Nat) : Has P w K mg base (k + 1) "is_tuple_of" (spTO P w K mg base k) := by
  refine D.f_is_tuple_of.has sc_is_tuple_of (fun vs H Q E h => ?_) (fun f cdv A outer s H vs Q E hr h => ?_)
  · obtain ⟨p, c, xs, rfl, _⟩ := h
    rfl
  · obtain ⟨p, c, xs, rfl, hS, hz, hchk, q⟩ := h
    refine ⟨_, (pss_one (ps_ret (pe_and (pe_callB call_isi (by rfl) D.b_isinstance (by decide +kernel) (pa_cons (pv 0) (pa_cons (pe_ty (n := "tuple") (by rfl) D.b_tuple (by decide +kernel)) pa_nil))) (pe_one (pe_callB (cr_all rfl) (by rfl) D.b_all (by decide +kernel) (pa_cons (pe_lc (own := [("part", 2)]) (te := tPcv P w K mg base k 1 (tCons (tVar 2) tNil)) (by rfl) sc_is_tuple_of.nd (pi_tup (pv 0)) (blkOk_by (own := [("part", 2)]) (N := N_is_tuple_of) (sc := defScope s_is_tuple_of) (by decide +kernel)) (fun _ _ _ _ _ => (pg_name (i := 2) sc_is_tuple_of.nd rfl (Or.inl rfl))) (fun _ _ _ _ _ => pts_nil) (fun _ _ _ _ _ => (pcv 1 hr (pa_cons (pv 2) pa_nil)))) pa_nil)))))), ?_⟩
    refine ⟨_, rfl, _, _, _, _, _, rfl, .ty _, sqT_ty hS, kit_tt, _, rfl, _, rfl, p, rfl, ⟨xs, hS⟩, fun Dn nD => ?_⟩
    refine lc_tup (K := K) (a := p) (xs := xs) (PvM H Dn RTrue) (PvM.zero nD) (fun i H' _ pp => pp.1.tsm _ _ hS) (fun i x H3 hx pp => ?_) (fun H3 pp => ?_)
    · obtain ⟨fc, sp, rfl, hf, hs⟩ := hchk i x hx
      refine ⟨rfl, fc, sp, rfl, hf, _, rfl, ?_⟩
      exact hs _ _ pp.1 fun H4 s4 => PvM.step (RTrue.mono K) nD pp (by have := (List.getElem?_eq_some_iff.mp hx).1; omega) s4 rfl
    · obtain ⟨bs, eb, hb⟩ := pp.trues
      refine ⟨Dn, bs, rfl, .of eb, ?_⟩
      rw [hb]
      exact q _ pp.1
end
end B9

/-! Expressions, rows, shapes: what the kinds say of them. -/
namespace B9
open PySem PySem.Spec PyProof.Rows L2
open RZ (ItzT pi_zipA iZipA)

/-! ### expressions by their parts -/
def wordOk (w : Str) (n : Nat) : Prop := (w ∈ unW ∧ n = 1) ∨ (w ∈ biW ∧ n = 2) ∨ (w = "if" ∧ n = 3)
theorem Ex.comp (e : Ex) (h : e.ok = true) : (∃ i, e = .int i) ∨ (∃ x, e = .nm x ∧ okNm x = true) ∨
    ∃ (w : Str) (es : List Ex), e.d = .tuple (.str w :: es.map Ex.d) ∧ wordOk w es.length ∧ e.names = es.flatMap Ex.names ∧ ∀ a ∈ es, a.ok = true ∧ a.depth + 1 ≤ e.depth := by
  cases e with
  | int i => exact .inl ⟨i, rfl⟩
  | nm x => exact .inr (.inl ⟨x, rfl, h⟩)
  | un w a =>
    simp only [Ex.ok, Bool.and_eq_true, decide_eq_true_eq] at h
    refine .inr (.inr ⟨w, [a], rfl, .inl ⟨h.1, rfl⟩, by simp [Ex.names], fun b hb => ?_⟩)
    rcases List.mem_singleton.mp hb with rfl
    exact ⟨h.2, Nat.le_refl _⟩
  | bi w a b =>
    simp only [Ex.ok, Bool.and_eq_true, decide_eq_true_eq] at h
    refine .inr (.inr ⟨w, [a, b], rfl, .inr (.inl ⟨h.1.1, rfl⟩), by simp [Ex.names], fun c hc => ?_⟩)
    simp only [List.mem_cons, List.not_mem_nil, or_false] at hc
    rcases hc with rfl | rfl
    · exact ⟨h.1.2, by simp only [Ex.depth]; omega⟩
    · exact ⟨h.2, by simp only [Ex.depth]; omega⟩
  | tri a b c =>
    simp only [Ex.ok, Bool.and_eq_true] at h
    refine .inr (.inr ⟨"if", [a, b, c], rfl, .inr (.inr ⟨rfl, rfl⟩), by simp [Ex.names], fun z hz => ?_⟩)
    simp only [List.mem_cons, List.not_mem_nil, or_false] at hz
    rcases hz with rfl | rfl | rfl
    · exact ⟨h.1.1, by simp only [Ex.depth]; omega⟩
    · exact ⟨h.1.2, by simp only [Ex.depth]; omega⟩
    · exact ⟨h.2, by simp only [Ex.depth]; omega⟩
theorem wordOk.shp {w : Str} {n : Nat} (h : wordOk w n) {K : PySem.W.Frag} {W : World} {d f : Addr} (h1 : ∀ x ∈ unW, InD K W d x [.ref f]) (h2 : ∀ x ∈ biW, InD K W d x [.ref f, .ref f]) (h3 : InD K W d "if" [.ref f, .ref f, .ref f]) :
    InD K W d w (List.replicate n (.ref f)) := by
  rcases h with ⟨h, rfl⟩ | ⟨h, rfl⟩ | ⟨rfl, rfl⟩
  · exact h1 w h
  · exact h2 w h
  · exact h3
theorem wordOk.le {w : Str} {n : Nat} (h : wordOk w n) : n ≤ 3 := by
  rcases h with ⟨_, rfl⟩ | ⟨_, rfl⟩ | ⟨_, rfl⟩ <;> omega
/-- the rest of a tuple -/
theorem cutV_1 (x : V) (xs : List V) : cutV (x :: xs) (some 1) none = xs := by
  unfold cutV
  rw [show HT.sIx (x :: xs).length 0 (some 1) = min 1 (x :: xs).length from HT.sIx_nat (x :: xs).length 0 1, HT.sIx_none]
  rw [show min 1 (x :: xs).length = 1 by
    rw [List.length_cons]
    omega]
  show (List.take ((x :: xs).length - 1) xs) = xs
  rw [List.length_cons, Nat.add_sub_cancel]
  exact List.take_length
theorem not_whole1 {n : Nat} {P : Prop} : ¬ (HT.sIx (n + 1) 0 (some 1) = 0 ∧ P) := fun ⟨h, _⟩ => by
  rw [show HT.sIx (n + 1) 0 (some 1) = min 1 (n + 1) from HT.sIx_nat (n + 1) 0 1] at h
  omega
theorem at0 {x : V} {xs : List V} : atI (x :: xs) 0 = some x := atI_nat (j := 0) rfl
theorem at1 {x y : V} {xs : List V} : atI (x :: y :: xs) 1 = some y := atI_nat (j := 1) rfl
theorem at2 {x y z : V} {xs : List V} : atI (x :: y :: z :: xs) 2 = some z := atI_nat (j := 2) rfl
theorem at3 {x y z u : V} {xs : List V} : atI (x :: y :: z :: u :: xs) 3 = some u := atI_nat (j := 3) rfl
theorem small3 {n : Nat} (h : n ≤ 100) : n ≤ sizeLine := Nat.le_of_lt (small1000 (by omega))

section
variable {P : Program} {w : World} {K : PySem.W.Frag} {mg : Str → Option Value} {base : Heap}
/-! ### checks that say True -/
theorem Has.at {k : Nat} {x : Str} {sp : Sp} {f : Addr} (h : Has P w K mg base k x sp) (g : mg x = some (.ref f)) : Hl P w K mg base k f sp := by
  obtain ⟨f', g', l⟩ := h
  rw [g] at g'
  cases g'
  exact l
theorem chkName (D : Dfs w K mg) {k : Nat} (hk : 1 ≤ k) {f : Addr} (g : mg "is_name" = some (.ref f)) {x : Str} (hx : okNm x = true) {H : Hp} : ChkOk P w K mg base k (.ref f) (.str x) H :=
  ⟨f, spIsName K, rfl, ((h_is_name D).at g).imp hk fun _ _ _ _ z => z, fun H1 Q s q => ⟨_, .str x, rfl, .str x, fun y e => by cases e; exact hx, q⟩⟩
theorem chkInt (D : Dfs w K mg) {k : Nat} (hk : 1 ≤ k) {f : Addr} (g : mg "is_integer" = some (.ref f)) {i : Int} {H : Hp} : ChkOk P w K mg base k (.ref f) (.int i) H :=
  ⟨f, spIsInt K, rfl, ((h_is_integer D).at g).imp hk fun _ _ _ _ z => z, fun H1 Q s q => ⟨_, .int i, rfl, .int i, q _ (Same.refl _)⟩⟩
theorem chkNum (D : Dfs w K mg) {k : Nat} (hk : 2 ≤ k) {f : Addr} (g : mg "is_number" = some (.ref f)) {i : Int} (h0 : 0 ≤ i) {H : Hp} : ChkOk P w K mg base k (.ref f) (.int i) H :=
  ⟨f, spIsNum K, rfl, ((h_is_number D).at g).imp hk fun _ _ _ _ z => z, fun H1 Q s q => ⟨i, rfl, by rw [decide_eq_true h0]; exact q _ (Same.refl _)⟩⟩
/-- a promise «True of this data» makes a check -/
theorem chkOf {k j : Nat} {x : Str} {sp : Sp} {f : Addr} (h : Has P w K mg base j x sp) (hk : j ≤ k) (g : mg x = some (.ref f)) {v : V} {H : Hp}
    (hs : ∀ H1 Q, Same H H1 → (∀ H2, Same H1 H2 → Q (.bl true) H2) → sp [v] H1 Q E0) : ChkOk P w K mg base k (.ref f) v H :=
  ⟨f, sp, rfl, (h.at g).imp hk fun _ _ _ _ z => z, hs⟩

/-! ### is_worded -/
def spWd (K : PySem.W.Frag) : Sp := fun vs H Q _ => ∃ v x ds, vs = [v] ∧ Tp K H v (.tuple (.str x :: ds)) ∧ SeqAt.shaped (.tuple (.str x :: ds)) = true ∧ ∀ H', Same H H' → Q (.bl true) H'
theorem eqv_nil {d : PyData} {ds : List PyData} : PyData.eqv (.tuple (d :: ds)) (.tuple []) = false := by simp [PyData.eqv, PyData.eqvAll]
theorem shaped_nil : SeqAt.shaped (.tuple []) = true := by decide +kernel
theorem h_is_worded (D : Dfs w K mg) : Has P w K mg base 1 "is_worded" (spWd K) := by
  refine D.f_is_worded.has sc_is_worded (fun vs H Q E h => ?_) (fun f cdv A outer s H vs Q E hr h => ?_)
  · obtain ⟨v, x, ds, rfl, _⟩ := h
    rfl
  · obtain ⟨v, x, ds, rfl, hd, hsh, q⟩ := h
    obtain ⟨a, xs, rfl, hS, hA⟩ := hd.tup_inv
    obtain ⟨v0, vs0, rfl, h0, _⟩ := hA.cons_inv
    obtain rfl := h0.str_inv
    refine ⟨_, (pss_one (ps_ret (pe_and (pe_callB call_isi (by rfl) D.b_isinstance (by decide +kernel) (pa_cons (pv 0) (pa_cons (pe_ty (n := "tuple") (by rfl) D.b_tuple (by decide +kernel)) pa_nil))) (pe_and (pe_cmpR (op_neD hr.units) (pv 0) (pe_tup pa_nil) (nomark _)) (pe_one (pe_callB call_isi (by rfl) D.b_isinstance (by decide +kernel) (pa_cons (pe_ix ix_tup (pv 0) pe_int (fun _ _ => rfl)) (pa_cons (pe_ty (n := "str") (by rfl) D.b_str (by decide +kernel)) pa_nil)))))))), ?_⟩
    refine ⟨_, rfl, _, _, _, _, _, rfl, .ty _, hd.ty, kit_tup hd, _, rfl, ?_⟩
    refine ⟨_, rfl, Nat.zero_le _, fun p np => ?_⟩
    have s1 : Same H (upd H p (.tup [])) := same_upd np
    refine ⟨_, .tuple [], (hd.mono s1.tsm).dp, .tup (.of upd_same) .nil, hsh, shaped_nil, _, rfl, ?_⟩
    rw [eqv_nil]
    refine ⟨_, rfl, a, _, 0, _, rfl, rfl, s1.tsm _ _ hS, at0, _, _, _, _, _, rfl, .ty _, (h0.mono s1.tsm).ty, kit_str (h0.mono s1.tsm), q _ s1⟩

/-! ### is_expression -/
def spEx (K : PySem.W.Frag) (n : Nat) : Sp := fun vs H Q _ => ∃ v e, vs = [v] ∧ Tp K H v (Ex.d e) ∧ e.ok = true ∧ e.depth ≤ n ∧ ∀ H', Same H H' → Q (.bl true) H'
theorem Ex.shaped {e : Ex} {n : Nat} (h : e.ok = true) (hd : e.depth ≤ n) (hn : n ≤ 60) : SeqAt.shaped e.d = true := shaped_of (Ex.lay h) (by rw [Ex.dep]; omega)
theorem h_ex_step (D : Dfs w K mg) (n : Nat) (hn : n ≤ 60) (ih : ∀ m, m < n → Has P w K mg base (2 * m + 3) "is_expression" (spEx K m)) : Has P w K mg base (2 * n + 2 + 1) "is_expression" (spEx K n) := by
  refine D.f_is_expression.has sc_is_expression (fun vs H Q E h => ?_) (fun f cdv A outer s H vs Q E hr h => ?_)
  · obtain ⟨v, e, rfl, _⟩ := h
    rfl
  · obtain ⟨v, e, rfl, hd, hok, hdep, q⟩ := h
    obtain ⟨dS, es, nn, fE, gS, kd, gE, S1, S2, S3⟩ := D.c_SHAPES
    refine ⟨_, (pss_cons (ps_if (PW.pt (pw_or (pt_val (pc (h_is_integer D) hr (pa_cons (pv 0) pa_nil))) (pw_or1 (pt_val (pc (h_is_name D) hr (pa_cons (pv 0) pa_nil)))))) (pss_one (ps_ret pe_bl)) pss_nil)
      (pss_one (ps_ret (pe_and (pc (h_is_worded D) hr (pa_cons (pv 0) pa_nil)) (pe_and (pe_cmpR (op_in_kd kd) (pe_ix ix_tup (pv 0) pe_int (fun _ _ => rfl)) (pe_glob (v := .ref dS) (by rfl) gS rfl) (by rfl)) (pe_one (pc (h_is_tuple_with D (2 * n + 1)) hr (pa_cons (pe_slice sl_tupA (pv 0) (po_some pe_int) po_none) (pa_cons (pe_ix ix_kdict (pe_glob (v := .ref dS) (by rfl) gS rfl) (pe_ix ix_tup (pv 0) pe_int (fun _ _ => rfl)) (fun _ _ => rfl)) pa_nil))))))))), ?_⟩
    rcases e.comp hok with ⟨i, rfl⟩ | ⟨x, rfl, hx⟩ | ⟨wd, ps, ed, wok, _, hps⟩
    · exact ⟨_, rfl, _, _, rfl, hd, _, rfl, q _ (Same.refl _)⟩
    · exact ⟨_, rfl, _, _, rfl, hd, _, rfl, _, rfl, _, _, rfl, hd, fun y e => by cases e; exact hx, fun H1 s1 => ⟨_, rfl, q _ s1⟩⟩
    · have hsh := Ex.shaped hok hdep hn
      rw [ed] at hd hsh
      obtain ⟨a, xs, rfl, hS, hA⟩ := hd.tup_inv
      obtain ⟨v0, ys, rfl, h0, hY⟩ := hA.cons_inv
      obtain rfl := h0.str_inv
      obtain ⟨t, hns, tk⟩ := wok.shp S1 S2 S3
      refine ⟨_, rfl, _, _, rfl, hd, _, rfl, _, rfl, _, _, rfl, hd, (fun y e => nomatch e), fun H1 s1 => ⟨_, rfl, ?_⟩⟩
      have hd1 := hd.mono s1.tsm
      refine ⟨_, rfl, _, wd, _, rfl, hd1, hsh, fun H2 s2 => ⟨_, rfl, ?_⟩⟩
      have hS2 := s2.tsm _ _ (s1.tsm _ _ hS)
      refine ⟨_, rfl, a, _, 0, _, rfl, rfl, hS2, at0, wd, _, rfl, rfl, hns, _, rfl, ?_⟩
      refine ⟨_, rfl, 1, rfl, a, _, rfl, hS2, (fun z => absurd z not_whole1), fun _ c nc => ?_⟩
      have s3 : Same H2 (upd H2 c (.tup (cutV (.str wd :: ys) (some 1) none))) := same_upd nc
      refine ⟨_, rfl, a, _, 0, _, rfl, rfl, s3.tsm _ _ hS2, at0, dS, wd, .ref t, rfl, rfl, ⟨es, nn, .ref t, kd.at_, kd.lit, hns, rfl⟩, ?_⟩
      have hl := hY.length
      rw [List.length_map] at hl
      refine ⟨c, t, ys, _, rfl, .of (by rw [upd_same, cutV_1]), tk.sq, by rw [hl, List.length_replicate], by have := wok.le; omega, fun i x cc hx hc => ?_, fun H3 s4 => q _ (((s1.trans s2).trans s3).trans s4)⟩
      obtain ⟨dd, he, tp⟩ := hY.get hx
      obtain ⟨e', hm, rfl⟩ : ∃ e' ∈ ps, dd = Ex.d e' := by
        rw [List.getElem?_map] at he
        cases q' : ps[i]? with
        | none => rw [q'] at he; cases he
        | some e' =>
          rw [q'] at he
          cases he
          exact ⟨e', List.mem_of_getElem? q', rfl⟩
      obtain rfl : cc = .ref fE := List.eq_of_mem_replicate (List.mem_of_getElem? hc)
      obtain ⟨ok', dp'⟩ := hps e' hm
      have hn1 : n - 1 < n := by omega
      refine chkOf (ih (n - 1) hn1) (by omega) gE fun H4 Q4 s4 q4 => ⟨_, e', rfl, tp.mono ((s1.trans s2).trans (s3.trans s4)).tsm, ok', by omega, q4⟩
theorem h_is_expression (D : Dfs w K mg) : ∀ n, n ≤ 60 → Has P w K mg base (2 * n + 3) "is_expression" (spEx K n) := by
  intro n
  induction n using Nat.strongRecOn with
  | ind n ih => exact fun hn => h_ex_step D n hn fun m hm => ih m hm (by omega)
end
end B9

/-! Rows, names of expressions, fits, shapes of functions. -/
namespace B9
open PySem PySem.Spec PyProof.Rows L2

/-! ### walks, whatever the turn is -/
theorem walkT {K : PySem.W.Frag} {a : Addr} {xs : List V} {B : V → Hp → (Hp → Prop) → Prop} {S : Hp} {Qd : Hp → Prop} (Pv : Nat → Hp → Prop) (h0 : Pv 0 S) (hl : ∀ i H, i ≤ xs.length → Pv i H → SqT K H a xs)
    (hs : ∀ (i : Nat) (x : V) (H : Hp), xs[i]? = some x → Pv i H → B x H (Pv (i + 1))) (hd : ∀ H, Pv xs.length H → Qd H) :
    ∃ W : Nat → Nat → Hp → Prop, (∃ m, W 0 m S) ∧ ∀ i m H, W i m H →
      ((Itt K a).stop i H ∧ Qd H) ∨ ((Itt K a).go i H ∧ ∃ Nx : Hp → Prop, (∀ H', Nx H' → ∃ m', m' < m ∧ W (i + 1) m' H') ∧ ∀ x H', (Itt K a).yld i H x H' → B x H' Nx) := by
  refine ⟨fun i m H => m = xs.length - i ∧ i ≤ xs.length ∧ Pv i H, ⟨xs.length, by simp, Nat.zero_le _, h0⟩, ?_⟩
  rintro i m H ⟨rfl, hi, p⟩
  have q := hl i H hi p
  by_cases hlt : i < xs.length
  · have hx : xs[i]? = some xs[i] := List.getElem?_eq_getElem hlt
    refine .inr ⟨⟨xs, xs[i], q, hx⟩, Pv (i + 1), fun H' p' => ⟨xs.length - (i + 1), by omega, rfl, hlt, p'⟩, fun x H' y => ?_⟩
    obtain ⟨rfl, f⟩ := y
    exact hs i x _ (f _ q) p
  · have e : i = xs.length := by omega
    subst e
    exact .inl ⟨⟨xs, q, Nat.le_refl _⟩, hd H p⟩
theorem walkL {K : PySem.W.Frag} {a : Addr} {xs : List V} {B : V → Hp → (Hp → Prop) → Prop} {S : Hp} {Qd : Hp → Prop} (Pv : Nat → Hp → Prop) (h0 : Pv 0 S) (hl : ∀ i H, i ≤ xs.length → Pv i H → SqL K H a xs)
    (hs : ∀ (i : Nat) (x : V) (H : Hp), xs[i]? = some x → Pv i H → B x H (Pv (i + 1))) (hd : ∀ H, Pv xs.length H → Qd H) :
    ∃ W : Nat → Nat → Hp → Prop, (∃ m, W 0 m S) ∧ ∀ i m H, W i m H →
      ((Itl K a).stop i H ∧ Qd H) ∨ ((Itl K a).go i H ∧ ∃ Nx : Hp → Prop, (∀ H', Nx H' → ∃ m', m' < m ∧ W (i + 1) m' H') ∧ ∀ x H', (Itl K a).yld i H x H' → B x H' Nx) := by
  refine ⟨fun i m H => m = xs.length - i ∧ i ≤ xs.length ∧ Pv i H, ⟨xs.length, by simp, Nat.zero_le _, h0⟩, ?_⟩
  rintro i m H ⟨rfl, hi, p⟩
  have q := hl i H hi p
  by_cases hlt : i < xs.length
  · have hx : xs[i]? = some xs[i] := List.getElem?_eq_getElem hlt
    refine .inr ⟨⟨xs, xs[i], q, hx⟩, Pv (i + 1), fun H' p' => ⟨xs.length - (i + 1), by omega, rfl, hlt, p'⟩, fun x H' y => ?_⟩
    obtain ⟨rfl, f⟩ := y
    exact hs i x _ (f _ q) p
  · have e : i = xs.length := by omega
    subst e
    exact .inl ⟨⟨xs, q, Nat.le_refl _⟩, hd H p⟩
theorem walkR {lo : Int} {n : Nat} {B : V → Hp → (Hp → Prop) → Prop} {S : Hp} {Qd : Hp → Prop} (Pv : Nat → Hp → Prop) (h0 : Pv 0 S)
    (hs : ∀ (i : Nat) (H : Hp), i < n → Pv i H → B (.int (lo + i)) H (Pv (i + 1))) (hd : ∀ H, Pv n H → Qd H) :
    ∃ W : Nat → Nat → Hp → Prop, (∃ m, W 0 m S) ∧ ∀ i m H, W i m H →
      ((Itr lo n).stop i H ∧ Qd H) ∨ ((Itr lo n).go i H ∧ ∃ Nx : Hp → Prop, (∀ H', Nx H' → ∃ m', m' < m ∧ W (i + 1) m' H') ∧ ∀ x H', (Itr lo n).yld i H x H' → B x H' Nx) := by
  refine ⟨fun i m H => m = n - i ∧ i ≤ n ∧ Pv i H, ⟨n, by simp, Nat.zero_le _, h0⟩, ?_⟩
  rintro i m H ⟨rfl, hi, p⟩
  by_cases hlt : i < n
  · refine .inr ⟨hlt, Pv (i + 1), fun H' p' => ⟨n - (i + 1), by omega, rfl, hlt, p'⟩, fun x H' y => ?_⟩
    obtain ⟨rfl, rfl⟩ := y
    exact hs i _ hlt p
  · have e : i = n := by omega
    subst e
    exact .inl ⟨Nat.le_refl _, hd H p⟩

/-! ### texts within texts -/
theorem flat_strs (ns : List Str) : (ns.map V.str).all flatV = true := by
  rw [List.all_eq_true]
  intro v hv
  obtain ⟨x, _, rfl⟩ := List.mem_map.mp hv
  rfl
theorem inV_str (x : Str) (ns : List Str) : inV (.str x) (ns.map V.str) = decide (x ∈ ns) := by
  induction ns with
  | nil => rfl
  | cons n r ih =>
    have h : inV (.str x) ((n :: r).map V.str) = (eqV (.str n) (.str x) || inV (.str x) (r.map V.str)) := rfl
    rw [h, ih]
    have e : eqV (.str n) (.str x) = decide (x = n) := by
      show (n == x) = decide (x = n)
      by_cases h : x = n
      · rw [decide_eq_true h, h]
        exact beq_self_eq_true n
      · rw [decide_eq_false h]
        exact beq_eq_false_iff_ne.mpr fun z => h z.symm
    rw [e, Bool.eq_iff_iff]
    simp

theorem names_len : ∀ e : Ex, e.names.length ≤ 3 ^ e.depth
  | .int _ => Nat.zero_le _
  | .nm _ => Nat.le_refl _
  | .un w a => by
    have h := names_len a
    simp only [Ex.names, Ex.depth, Nat.pow_succ]
    omega
  | .bi w a b => by
    have h1 := names_len a
    have h2 := names_len b
    have m1 : 3 ^ a.depth ≤ 3 ^ max a.depth b.depth := Nat.pow_le_pow_right (by decide) (by omega)
    have m2 : 3 ^ b.depth ≤ 3 ^ max a.depth b.depth := Nat.pow_le_pow_right (by decide) (by omega)
    simp only [Ex.names, Ex.depth, Nat.pow_succ, List.length_append]
    omega
  | .tri a b c => by
    have h1 := names_len a
    have h2 := names_len b
    have h3 := names_len c
    have m1 : 3 ^ a.depth ≤ 3 ^ max a.depth (max b.depth c.depth) := Nat.pow_le_pow_right (by decide) (by omega)
    have m2 : 3 ^ b.depth ≤ 3 ^ max a.depth (max b.depth c.depth) := Nat.pow_le_pow_right (by decide) (by omega)
    have m3 : 3 ^ c.depth ≤ 3 ^ max a.depth (max b.depth c.depth) := Nat.pow_le_pow_right (by decide) (by omega)
    simp only [Ex.names, Ex.depth, Nat.pow_succ, List.length_append]
    omega
theorem names_len8 {e : Ex} (h : e.depth ≤ maxD) : e.names.length ≤ 6561 :=
  Nat.le_trans (names_len e) (Nat.le_trans (Nat.pow_le_pow_right (by decide) h) (by decide))

section
variable {P : Program} {w : World} {K : PySem.W.Frag} {mg : Str → Option Value} {base : Heap}
/-! ### are_expressions, is_row -/
def spExs (K : PySem.W.Frag) : Sp := fun vs H Q _ => ∃ (v : V) (es : List Ex), vs = [v] ∧ Tp K H v (.tuple (es.map Ex.d)) ∧ es.length ≤ 1000 ∧ (∀ e ∈ es, e.ok = true ∧ e.depth ≤ maxD) ∧ ∀ H', Same H H' → Q (.bl true) H'
theorem TpAll.map_get {α : Type} {f : α → PyData} {K : PySem.W.Frag} {H : Hp} {xs : List V} {l : List α} {i : Nat} {x : V} (h : TpAll K H xs (l.map f)) (hx : xs[i]? = some x) : ∃ a, l[i]? = some a ∧ a ∈ l ∧ Tp K H x (f a) := by
  obtain ⟨d, e, t⟩ := h.get hx
  rw [List.getElem?_map] at e
  cases q : l[i]? with
  | none => rw [q] at e; cases e
  | some a =>
    rw [q] at e
    cases e
    exact ⟨a, rfl, List.mem_of_getElem? q, t⟩
theorem TpAll.map_len {α : Type} {f : α → PyData} {K : PySem.W.Frag} {H : Hp} {xs : List V} {l : List α} (h : TpAll K H xs (l.map f)) : xs.length = l.length := by
  rw [h.length, List.length_map]
theorem h_are_expressions (D : Dfs w K mg) : Has P w K mg base 21 "are_expressions" (spExs K) := by
  refine D.f_are_expressions.has sc_are_expressions (fun vs H Q E h => ?_) (fun f cdv A outer s H vs Q E hr h => ?_)
  · obtain ⟨v, es, rfl, _⟩ := h
    rfl
  · obtain ⟨v, es, rfl, hd, hz, hes, q⟩ := h
    obtain ⟨a, xs, rfl, hS, hA⟩ := hd.tup_inv
    obtain ⟨fE, gE, lE⟩ := h_is_expression (P := P) (base := base) D maxD (by decide)
    refine ⟨_, (pss_one (ps_ret (pc (h_is_tuple_of D 19) hr (pa_cons (pv 0) (pa_cons (pe_glob (v := .ref fE) (by rfl) gE rfl) pa_nil))))), ?_⟩
    refine ⟨_, rfl, a, .ref fE, xs, rfl, hS, by rw [hA.map_len]; exact hz, fun i x hx => ?_, q⟩
    obtain ⟨e, _, hm, tp⟩ := hA.map_get hx
    obtain ⟨ok, dp⟩ := hes e hm
    exact chkOf (h_is_expression D maxD (by decide)) (Nat.le_refl _) gE fun H1 Q1 s1 q1 => ⟨_, e, rfl, tp.mono s1.tsm, ok, dp, q1⟩
def spRow (K : PySem.W.Frag) : Sp := fun vs H Q _ => ∃ v r, vs = [v] ∧ Tp K H v (Rw.d r) ∧ r.ok = true ∧ r.parts.length ≤ 1000 ∧ ∀ H', Same H H' → Q (.bl true) H'
theorem Rw.ok_nms {r : Rw} (h : r.ok = true) : ∀ x ∈ r.nms, okNm x = true := by
  unfold Rw.ok at h
  simp only [Bool.and_eq_true, List.all_eq_true] at h
  exact h.1
theorem Rw.ok_parts {r : Rw} (h : r.ok = true) : ∀ e ∈ r.parts, e.ok = true ∧ e.depth ≤ maxD := by
  unfold Rw.ok at h
  simp only [Bool.and_eq_true, List.all_eq_true, decide_eq_true_eq] at h
  exact h.2
theorem row_checks (D : Dfs w K mg) {d f g h : Addr} (gE : mg "is_expression" = some (.ref f)) (gN : mg "is_name" = some (.ref g)) (gA : mg "are_expressions" = some (.ref h))
    (c1 : InD K w d "set" [.ref g, .ref f]) (c2 : InD K w d "if" [.ref f]) (c3 : InD K w d "else" []) (c4 : InD K w d "while" [.ref f]) (c5 : InD K w d "end" []) (c6 : InD K w d "call" [.ref g, .ref g, .ref h]) (c7 : InD K w d "return" [.ref f])
    {r : Rw} (hok : r.ok = true) (hl : r.parts.length ≤ 1000) {H : Hp} {xs : List V} (hA : TpAll K H xs r.rest) :
    ∃ cs, InD K w d r.word cs ∧ xs.length = cs.length ∧ xs.length ≤ 3 ∧ ∀ (i : Nat) (x c : V), xs[i]? = some x → cs[i]? = some c → ∀ H', Same H H' → ChkOk P w K mg base 21 c x H' := by
  have hN := Rw.ok_nms hok
  have hP := Rw.ok_parts hok
  have one : ∀ (e : Ex) (ys : List V), e.ok = true → e.depth ≤ maxD → TpAll K H ys [e.d] → ∀ (i : Nat) (x c : V), ys[i]? = some x → ([.ref f] : List V)[i]? = some c → ∀ H', Same H H' → ChkOk P w K mg base 21 c x H' := by
    intro e ys ok dp hA i x c hx hc H' s'
    obtain ⟨v0, _, rfl, t0, hA⟩ := hA.cons_inv
    obtain rfl := hA.nil_inv
    cases i with
    | succ i => simp at hx
    | zero =>
      cases hx
      cases hc
      exact chkOf (h_is_expression D maxD (by decide)) (by decide) gE fun H1 Q1 s1 q1 => ⟨_, e, rfl, t0.mono (s'.trans s1).tsm, ok, dp, q1⟩
  cases r with
  | set x e =>
    obtain ⟨v0, xs, rfl, t0, hA⟩ := hA.cons_inv
    obtain ⟨ok, dp⟩ := hP e (by simp [Rw.parts])
    refine ⟨_, c1, by rw [List.length_cons, hA.length]; rfl, by rw [List.length_cons, hA.length]; show 2 ≤ 3; decide, fun i y c hy hc H' s' => ?_⟩
    cases i with
    | zero =>
      cases hy
      cases hc
      obtain rfl := t0.str_inv
      exact chkName D (by decide) gN (hN x (by simp [Rw.nms]))
    | succ i => exact one e xs ok dp hA i y c hy hc H' s'
  | ifr e =>
    obtain ⟨ok, dp⟩ := hP e (by simp [Rw.parts])
    exact ⟨_, c2, by rw [hA.length]; rfl, by rw [hA.length]; show 1 ≤ 3; decide, one e xs ok dp hA⟩
  | els =>
    obtain rfl := hA.nil_inv
    exact ⟨_, c3, rfl, by decide, fun i y c hy => by simp at hy⟩
  | whl e =>
    obtain ⟨ok, dp⟩ := hP e (by simp [Rw.parts])
    exact ⟨_, c4, by rw [hA.length]; rfl, by rw [hA.length]; show 1 ≤ 3; decide, one e xs ok dp hA⟩
  | nd =>
    obtain rfl := hA.nil_inv
    exact ⟨_, c5, rfl, by decide, fun i y c hy => by simp at hy⟩
  | call x gg as =>
    obtain ⟨v0, xs, rfl, t0, hA⟩ := hA.cons_inv
    obtain ⟨v1, xs, rfl, t1, hA⟩ := hA.cons_inv
    obtain ⟨v2, xs, rfl, t2, hA⟩ := hA.cons_inv
    obtain rfl := hA.nil_inv
    refine ⟨_, c6, rfl, by show 3 ≤ 3; decide, fun i y c hy hc H' s' => ?_⟩
    match i with
    | 0 =>
      cases hy
      cases hc
      obtain rfl := t0.str_inv
      exact chkName D (by decide) gN (hN x (by simp [Rw.nms]))
    | 1 =>
      cases hy
      cases hc
      obtain rfl := t1.str_inv
      exact chkName D (by decide) gN (hN gg (by simp [Rw.nms]))
    | 2 =>
      cases hy
      cases hc
      exact chkOf (h_are_expressions D) (by decide) gA fun H1 Q1 s1 q1 => ⟨_, as, rfl, t2.mono (s'.trans s1).tsm, hl, hP, q1⟩
    | i + 3 => simp at hy
  | ret e =>
    obtain ⟨ok, dp⟩ := hP e (by simp [Rw.parts])
    exact ⟨_, c7, by rw [hA.length]; rfl, by rw [hA.length]; show 1 ≤ 3; decide, one e xs ok dp hA⟩
theorem Rw.shaped {r : Rw} (h : r.ok = true) : SeqAt.shaped r.d = true := shaped_of (Rw.lay h) (Nat.le_trans (Rw.dep h) (by decide))
theorem h_is_row (D : Dfs w K mg) : Has P w K mg base 23 "is_row" (spRow K) := by
  refine D.f_is_row.has sc_is_row (fun vs H Q E h => ?_) (fun f cdv A outer s H vs Q E hr h => ?_)
  · obtain ⟨v, r, rfl, _⟩ := h
    rfl
  · obtain ⟨v, r, rfl, hd, hok, hz, q⟩ := h
    obtain ⟨dS, es, nn, fE, fN, fA, gS, kd, gE, gN, gA, c1, c2, c3, c4, c5, c6, c7⟩ := D.c_ROW_SHAPES
    refine ⟨_, (pss_one (ps_ret (pe_and (pc (h_is_worded D) hr (pa_cons (pv 0) pa_nil)) (pe_and (pe_cmpR (op_in_kd kd) (pe_ix ix_tup (pv 0) pe_int (fun _ _ => rfl)) (pe_glob (v := .ref dS) (by rfl) gS rfl) (by rfl)) (pe_one (pc (h_is_tuple_with D 21) hr (pa_cons (pe_slice sl_tupA (pv 0) (po_some pe_int) po_none) (pa_cons (pe_ix ix_kdict (pe_glob (v := .ref dS) (by rfl) gS rfl) (pe_ix ix_tup (pv 0) pe_int (fun _ _ => rfl)) (fun _ _ => rfl)) pa_nil)))))))), ?_⟩
    have hsh := Rw.shaped hok
    obtain ⟨a, xs, rfl, hS, hA⟩ := hd.tup_inv
    obtain ⟨v0, ys, rfl, h0, hY⟩ := hA.cons_inv
    obtain rfl := h0.str_inv
    obtain ⟨cs, ⟨t, hns, tk⟩, hl, h3, hchk⟩ := row_checks (P := P) (base := base) D gE gN gA c1 c2 c3 c4 c5 c6 c7 hok hz hY
    refine ⟨_, rfl, _, _, _, rfl, hd, hsh, fun H2 s2 => ⟨_, rfl, ?_⟩⟩
    have hS2 := s2.tsm _ _ hS
    refine ⟨_, rfl, a, _, 0, _, rfl, rfl, hS2, at0, _, _, rfl, rfl, hns, _, rfl, ?_⟩
    refine ⟨_, rfl, 1, rfl, a, _, rfl, hS2, (fun z => absurd z not_whole1), fun _ c nc => ?_⟩
    have s3 : Same H2 (upd H2 c (.tup (cutV (.str r.word :: ys) (some 1) none))) := same_upd nc
    refine ⟨_, rfl, a, _, 0, _, rfl, rfl, s3.tsm _ _ hS2, at0, dS, _, .ref t, rfl, rfl, ⟨es, nn, .ref t, kd.at_, kd.lit, hns, rfl⟩, ?_⟩
    exact ⟨c, t, ys, cs, rfl, .of (by rw [upd_same, cutV_1]), tk.sq, hl, by omega, fun i x cc hx hc => hchk i x cc hx hc _ (s2.trans s3), fun H3 s4 => q _ ((s2.trans s3).trans s4)⟩

/-! ### names_in, fits -/
def spNames (K : PySem.W.Frag) (n : Nat) : Sp := fun vs H Q _ => ∃ v e, vs = [v] ∧ Tp K H v (Ex.d e) ∧ e.ok = true ∧ e.depth ≤ n ∧ ∀ H' p, Same H H' → H p = none → H' p = some (.lst (e.names.map V.str)) → Q (.ref p) H'
theorem h_names_step (D : Dfs w K mg) (n : Nat) (hn : n ≤ maxD) (ih : ∀ m, m < n → Has P w K mg base (m + 2) "names_in" (spNames K m)) : Has P w K mg base (n + 1 + 1) "names_in" (spNames K n) := by
  refine D.f_names_in.has sc_names_in (fun vs H Q E h => ?_) (fun f cdv A outer s H vs Q E hr h => ?_)
  · obtain ⟨v, e, rfl, _⟩ := h
    rfl
  · obtain ⟨v, e, rfl, hd, hok, hdep, q⟩ := h
    have ihn : Has P w K mg base (n + 1) "names_in" (fun vs H Q E => 1 ≤ n ∧ spNames K (n - 1) vs H Q E) := by
      by_cases h1 : 1 ≤ n
      · exact (ih (n - 1) (by omega)).imp (by omega) fun _ _ _ _ z => z.2
      · obtain ⟨f', fd', F, b, g⟩ := D.f_names_in
        exact ⟨f', g, fd', ["e"], ⟨fun vs H Q E z => absurd z.1 h1, fun _ _ _ _ _ _ _ _ _ _ _ _ _ z => absurd z.1 h1⟩, F.kp, b⟩
    refine ⟨_, (pss_cons (ps_if (pt_val (pc (h_is_integer D) hr (pa_cons (pv 0) pa_nil))) (pss_one (ps_ret (pe_lst pa_nil))) pss_nil)
      (pss_cons (ps_if (pt_val (pe_callB call_isi (by rfl) D.b_isinstance (by decide +kernel) (pa_cons (pv 0) (pa_cons (pe_ty (n := "str") (by rfl) D.b_str (by decide +kernel)) pa_nil)))) (pss_one (ps_ret (pe_lst (pa_cons (pv 0) pa_nil)))) pss_nil)
      (pss_one (ps_ret (pe_lc2 (vs1 := [2]) (own := [("part", 1), ("name", 2)]) (wi1 := iList K (tPc (fun vs H Q E => 1 ≤ n ∧ spNames K (n - 1) vs H Q E) (tCons (tVar 1) tNil))) (by rfl) sc_names_in.nd (pi_tup (pe_slice sl_tupA (pv 0) (po_some pe_int) po_none)) (blkOk_by (own := [("part", 1), ("name", 2)]) (N := N_names_in) (sc := defScope s_names_in) (by decide +kernel)) (by decide) (fun _ _ _ _ _ => (pg_name (i := 1) sc_names_in.nd rfl (Or.inl rfl))) (fun _ _ _ _ _ => pts_nil) (fun _ _ _ _ _ => (pi_list (pc ihn hr (pa_cons (pv 1) pa_nil)))) (fun _ _ _ _ _ => (pg_name (i := 2) sc_names_in.nd rfl (Or.inl rfl))) (fun _ _ _ _ _ => pts_nil) (fun _ _ _ _ _ => (pv 2))))))), ?_⟩
    rcases e.comp hok with ⟨i, rfl⟩ | ⟨x, rfl, hx⟩ | ⟨wd, ps, ed, wok, hnm, hps⟩
    · exact ⟨_, rfl, _, _, rfl, hd, _, rfl, Nat.zero_le _, fun p np => q _ p (same_upd np) np upd_same⟩
    · refine ⟨_, rfl, _, _, rfl, hd, _, rfl, _, rfl, _, _, _, _, _, rfl, .ty _, hd.ty, kit_str hd, _, rfl, ?_⟩
      obtain rfl := hd.str_inv
      exact ⟨_, rfl, (by show 1 ≤ sizeLine; decide +kernel), fun p np => q _ p (same_upd np) np upd_same⟩
    · have h1n : 1 ≤ n := by
        obtain ⟨a, ha⟩ : ∃ a, a ∈ ps := by
          cases ps with
          | nil => exact absurd wok (by rintro (⟨_, h⟩ | ⟨_, h⟩ | ⟨_, h⟩) <;> cases h)
          | cons a _ => exact ⟨a, List.mem_cons_self⟩
        have := (hps a ha).2
        omega
      have hle : e.names.length ≤ 6561 := names_len8 (by omega)
      rw [ed] at hd
      obtain ⟨a, xs, rfl, hS, hA⟩ := hd.tup_inv
      obtain ⟨v0, ys, rfl, h0, hY⟩ := hA.cons_inv
      refine ⟨_, rfl, _, _, rfl, hd, _, rfl, _, rfl, _, _, _, _, _, rfl, .ty _, hd.ty, kit_str hd, _, rfl, ?_⟩
      refine ⟨_, rfl, 1, rfl, a, _, rfl, hS, (fun z => absurd z not_whole1), fun _ c nc => ?_⟩
      rw [cutV_1]
      have s1 : Same H (upd H c (.tup ys)) := same_upd nc
      generalize hH1 : upd H c (.tup ys) = H1 at s1
      have hC : SqT K H1 c ys := .of (by rw [← hH1, upd_same])
      have hY1 : TpAll K H1 ys (ps.map Ex.d) := hY.mono s1.tsm
      refine ⟨c, rfl, ⟨ys, hC⟩, fun Dn nD => ?_⟩
      have lenD : ∀ i, ((ps.take i).flatMap Ex.names).length ≤ e.names.length := fun i => by
        have e := congrArg (fun l => (List.flatMap Ex.names l).length) (List.take_append_drop i ps)
        simp only [List.flatMap_append, List.length_append] at e
        rw [hnm]
        omega
      refine walkT (K := K) (a := c) (xs := ys) (fun i H' => Same H1 H' ∧ H' Dn = some (.lst (((ps.take i).flatMap Ex.names).map V.str))) ⟨same_upd nD, upd_same⟩ (fun i H' _ p => p.1.tsm _ _ hC) (fun i x H3 hx p => ?_) (fun H3 p => ?_)
      · obtain ⟨sm, eD⟩ := p
        obtain ⟨e', hi, hm, tp⟩ := hY1.map_get hx
        obtain ⟨ok', dp'⟩ := hps e' hm
        refine ⟨rfl, _, rfl, h1n, _, e', rfl, tp.mono sm.tsm, ok', by omega, fun H4 p4 s4 n4 e4 => ?_⟩
        have eD4 := s4 _ _ eD
        have ne : p4 ≠ Dn := fun z => by rw [z, eD] at n4; cases n4
        refine ⟨p4, rfl, ⟨_, .of e4⟩, ?_⟩
        refine walkL (K := K) (a := p4) (xs := e'.names.map V.str) (fun j H' => Same H1 H' ∧ H' p4 = some (.lst (e'.names.map V.str)) ∧ H' Dn = some (.lst (((ps.take i).flatMap Ex.names ++ e'.names.take j).map V.str)))
          ⟨sm.trans s4, e4, by rw [eD4, List.take_zero, List.append_nil]⟩ (fun j H' _ pp => .of pp.2.1) (fun j y H5 hy pp => ?_) (fun H5 pp => ?_)
        · obtain ⟨sm5, e5, eD5⟩ := pp
          rw [List.getElem?_map] at hy
          cases hj : e'.names[j]? with
          | none => rw [hj] at hy; cases hy
          | some z =>
            rw [hj] at hy
            cases hy
            have hjl := (List.getElem?_eq_some_iff.mp hj).1
            have hle' : e'.names.length ≤ 6561 := names_len8 (by omega)
            have := lenD i
            refine ⟨rfl, _, rfl, _, eD5, ?_, same_at nD sm5, ?_, ?_⟩
            · rw [List.length_map, List.length_append, List.length_take]
              exact Nat.lt_trans (by omega : _ < 1000000) big6
            · rw [upd_ne ne]
              exact e5
            · rw [upd_same, List.take_add_one, hj]
              simp
        · obtain ⟨sm5, e5, eD5⟩ := pp
          refine ⟨sm5, ?_⟩
          rw [eD5, List.length_map, List.take_length, List.take_add_one, hi, List.flatMap_append]
          simp
      · obtain ⟨sm, eD⟩ := p
        refine q _ Dn (s1.trans sm) ?_ ?_
        · rw [← hH1] at nD
          by_cases z : Dn = c
          · rw [z, upd_same] at nD
            cases nD
          · rw [upd_ne z] at nD
            exact nD
        · rw [eD, hY1.map_len, List.take_length, ← hnm]
theorem h_names_in (D : Dfs w K mg) : ∀ n, n ≤ maxD → Has P w K mg base (n + 2) "names_in" (spNames K n) := by
  intro n
  induction n using Nat.strongRecOn with
  | ind n ih => exact fun hn => h_names_step D n hn fun m hm => ih m hm (by omega)
def spFits (K : PySem.W.Frag) : Sp := fun vs H Q _ => ∃ (na : Addr) (ns : List Str) (v : V) (e : Ex), vs = [.ref na, v] ∧ (SqL K H na (ns.map V.str) ∨ SqT K H na (ns.map V.str)) ∧ Tp K H v (Ex.d e) ∧ e.ok = true ∧ e.depth ≤ maxD ∧ e.fits ns = true ∧ ∀ H', Same H H' → Q (.bl true) H'
theorem h_fits (D : Dfs w K mg) : Has P w K mg base 20 "fits" (spFits K) := by
  refine D.f_fits.has sc_fits (fun vs H Q E h => ?_) (fun f cdv A outer s H vs Q E hr h => ?_)
  · obtain ⟨na, ns, v, e, rfl, _⟩ := h
    rfl
  · obtain ⟨na, ns, v, e, rfl, hN, hd, hok, hdep, hfit, q⟩ := h
    have hX : Has P w K mg base 19 "is_expression" (spEx K maxD) := h_is_expression D maxD (by decide)
    have hY : Has P w K mg base 10 "names_in" (spNames K maxD) := h_names_in D maxD (by decide)
    refine ⟨_, (pss_one (ps_ret (pe_and (pc hX hr (pa_cons (pv 1) pa_nil)) (pe_one (pe_callB (cr_all rfl) (by rfl) D.b_all (by decide +kernel) (pa_cons (pe_lc (own := [("name", 2)]) (te := tOp (rIn K false) (tVar 2) (tVar 0)) (by rfl) sc_fits.nd (pi_list (pc hY hr (pa_cons (pv 1) pa_nil))) (blkOk_by (own := [("name", 2)]) (N := N_fits) (sc := defScope s_fits) (by decide +kernel)) (fun _ _ _ _ _ => (pg_name (i := 2) sc_fits.nd rfl (Or.inl rfl))) (fun _ _ _ _ _ => pts_nil) (fun _ _ _ _ _ => (pe_cmpR op_in_seq (pv 2) (pv 0) (by rfl)))) pa_nil)))))), ?_⟩
    refine ⟨_, rfl, _, e, rfl, hd, hok, hdep, fun H1 s1 => ⟨_, rfl, ?_⟩⟩
    refine ⟨_, rfl, _, e, rfl, hd.mono s1.tsm, hok, hdep, fun H2 p s2 np e2 => ?_⟩
    have s12 := s1.trans s2
    have hN2 : SqL K H2 na (ns.map V.str) ∨ SqT K H2 na (ns.map V.str) := hN.elim (fun z => .inl (s12.seq z)) fun z => .inr (s12.tsm _ _ z)
    refine ⟨p, rfl, ⟨_, .of e2⟩, fun Dn nD => ?_⟩
    have hle := names_len8 hdep
    refine walkL (K := K) (a := p) (xs := e.names.map V.str) (PvM H2 Dn RTrue) (PvM.zero nD) (fun i H' _ pp => .of (pp.1 _ _ e2)) (fun i x H3 hx pp => ?_) (fun H3 pp => ?_)
    · rw [List.getElem?_map] at hx
      cases hi : e.names[i]? with
      | none => rw [hi] at hx; cases hx
      | some z =>
        rw [hi] at hx
        cases hx
        have hil := (List.getElem?_eq_some_iff.mp hi).1
        refine ⟨rfl, _, rfl, _, rfl, na, _, rfl, hN2.elim (fun z => .inl (pp.1.seq z)) (fun z => .inr (pp.1.tsm _ _ z)), rfl, flat_strs ns, ?_⟩
        have hm : z ∈ ns := by
          unfold Ex.fits at hfit
          rw [List.all_eq_true] at hfit
          exact of_decide_eq_true (hfit z (List.mem_of_getElem? hi))
        have ei : inV (.str z) (ns.map V.str) = true := by rw [inV_str, decide_eq_true hm]
        show ∃ acc, _
        exact PvM.step (RTrue.mono K) nD pp (by omega) (Same.refl _) (by show V.bl (inV (.str z) (ns.map V.str)) = .bl true; rw [ei])
    · obtain ⟨bs, eb, hb⟩ := pp.trues
      refine ⟨Dn, bs, rfl, .of eb, ?_⟩
      rw [hb]
      exact q _ (s12.trans pp.1)

end
end B9

/-! Shapes of functions, their variables, rows that fit. -/
namespace B9
open PySem PySem.Spec PyProof.Rows L2

/-! ### what a function must be -/
structure FnW (f : Fnc) : Prop where
  nm : okNm f.nm = true
  rng : f.lo ≤ f.hi
  vars : ∀ v ∈ f.vars, okNm v.x = true ∧ v.lo ≤ v.hi
  nd : f.names.Nodup
  many : f.many ≤ f.vars.length
  vlen : f.vars.length ≤ 3
  rok : ∀ r ∈ f.rows, r.ok = true ∧ r.parts.length ≤ 3
  rlen : f.rows.length ≤ 1000
/-- the row fits these names and these counts of parameters -/
def rowFits (ns : List Str) (cnt : Str → Option Nat) : Rw → Bool
  | .set x e => decide (x ∈ ns) && e.fits ns
  | .ifr e => e.fits ns
  | .els => true
  | .whl e => e.fits ns
  | .nd => true
  | .call x g as => decide (x ∈ ns) && decide (cnt g = some as.length) && as.all fun e => e.fits ns
  | .ret e => e.fits ns
theorem FnW.vshaped {v : Vr} (h : okNm v.x = true) : v.d.canLay0 = true ∧ v.d.depth ≤ 1 := by
  refine ⟨layT fun d hd => ?_, depT (n := 0) fun d hd => ?_⟩
  · simp only [List.mem_cons, List.not_mem_nil, or_false] at hd
    rcases hd with rfl | rfl | rfl
    · exact lay_str h
    · simp only [PyData.canLay0]
    · simp only [PyData.canLay0]
  · simp only [List.mem_cons, List.not_mem_nil, or_false] at hd
    rcases hd with rfl | rfl | rfl <;> simp only [PyData.depth] <;> omega
theorem FnW.lay {f : Fnc} (h : FnW f) : f.d.canLay0 = true := layT fun d hd => by
  simp only [List.mem_cons, List.not_mem_nil, or_false] at hd
  rcases hd with rfl | rfl | rfl | rfl | rfl | rfl
  · exact lay_str h.nm
  · simp only [PyData.canLay0]
  · simp only [PyData.canLay0]
  · refine layT fun d hd => ?_
    obtain ⟨v, hv, rfl⟩ := List.mem_map.mp hd
    exact (FnW.vshaped (h.vars v hv).1).1
  · simp only [PyData.canLay0]
  · refine layT fun d hd => ?_
    obtain ⟨r, hr, rfl⟩ := List.mem_map.mp hd
    exact Rw.lay (h.rok r hr).1
theorem FnW.dep {f : Fnc} (h : FnW f) : f.d.depth ≤ maxD + 4 := depT fun d hd => by
  simp only [List.mem_cons, List.not_mem_nil, or_false] at hd
  rcases hd with rfl | rfl | rfl | rfl | rfl | rfl
  · simp only [PyData.depth]; omega
  · simp only [PyData.depth]; omega
  · simp only [PyData.depth]; omega
  · refine depT fun d hd => ?_
    obtain ⟨v, hv, rfl⟩ := List.mem_map.mp hd
    have := (FnW.vshaped (h.vars v hv).1).2
    omega
  · simp only [PyData.depth]; omega
  · refine depT fun d hd => ?_
    obtain ⟨r, hr, rfl⟩ := List.mem_map.mp hd
    exact Rw.dep (h.rok r hr).1
theorem FnW.shaped {f : Fnc} (h : FnW f) : SeqAt.shaped f.d = true := shaped_of h.lay (Nat.le_trans h.dep (by decide))

/-! ### words -/
theorem word_call {r : Rw} : decide (V.str r.word = V.str "call") = match r with | .call _ _ _ => true | _ => false := by
  cases r with
  | set x e => exact (by decide +kernel : decide (V.str ("set" : Str) = V.str "call") = false)
  | ifr e => exact (by decide +kernel : decide (V.str ("if" : Str) = V.str "call") = false)
  | els => exact (by decide +kernel : decide (V.str ("else" : Str) = V.str "call") = false)
  | whl e => exact (by decide +kernel : decide (V.str ("while" : Str) = V.str "call") = false)
  | nd => exact (by decide +kernel : decide (V.str ("end" : Str) = V.str "call") = false)
  | call x g as => exact (by decide +kernel : decide (V.str ("call" : Str) = V.str "call") = true)
  | ret e => exact (by decide +kernel : decide (V.str ("return" : Str) = V.str "call") = false)
theorem word_set {r : Rw} : decide (V.str r.word = V.str "set") = match r with | .set _ _ => true | _ => false := by
  cases r with
  | set x e => exact (by decide +kernel : decide (V.str ("set" : Str) = V.str "set") = true)
  | ifr e => exact (by decide +kernel : decide (V.str ("if" : Str) = V.str "set") = false)
  | els => exact (by decide +kernel : decide (V.str ("else" : Str) = V.str "set") = false)
  | whl e => exact (by decide +kernel : decide (V.str ("while" : Str) = V.str "set") = false)
  | nd => exact (by decide +kernel : decide (V.str ("end" : Str) = V.str "set") = false)
  | call x g as => exact (by decide +kernel : decide (V.str ("call" : Str) = V.str "set") = false)
  | ret e => exact (by decide +kernel : decide (V.str ("return" : Str) = V.str "set") = false)
def Rw.bare : Rw → Bool
  | .els => true
  | .nd => true
  | _ => false
/-- row[0] in ("else", "end") -/
theorem word_bare {r : Rw} : inV (.str r.word) [.str "else", .str "end"] = r.bare := by
  cases r with
  | set x e => exact (by decide +kernel : inV (.str ("set" : Str)) [.str "else", .str "end"] = false)
  | ifr e => exact (by decide +kernel : inV (.str ("if" : Str)) [.str "else", .str "end"] = false)
  | els => exact (by decide +kernel : inV (.str ("else" : Str)) [.str "else", .str "end"] = true)
  | whl e => exact (by decide +kernel : inV (.str ("while" : Str)) [.str "else", .str "end"] = false)
  | nd => exact (by decide +kernel : inV (.str ("end" : Str)) [.str "else", .str "end"] = true)
  | call x g as => exact (by decide +kernel : inV (.str ("call" : Str)) [.str "else", .str "end"] = false)
  | ret e => exact (by decide +kernel : inV (.str ("return" : Str)) [.str "else", .str "end"] = false)
theorem len2_line : 2 ≤ sizeLine := by decide +kernel
theorem len3_line : 3 ≤ sizeLine := by decide +kernel
theorem len6_line : 6 ≤ sizeLine := by decide +kernel
/-- the last item -/
theorem at_last1 {x y : V} {xs : List V} (h : (x :: xs).getLast? = some y) : atI (x :: xs) (-1) = some y := by
  have e : x :: xs = (x :: xs).dropLast ++ [y] := by
    have e2 := List.getLast?_eq_some_iff.mp h
    obtain ⟨zs, e3⟩ := e2
    rw [e3, List.dropLast_concat]
  rw [e]
  exact atI_last _ _

section
variable {P : Program} {w : World} {K : PySem.W.Frag} {mg : Str → Option Value} {base : Heap}
/-! ### require -/
def spReq : Sp := fun vs H Q _ => ∃ x y, vs = [.bl true, x, y] ∧ Q .non H
theorem req1 {b : Bool} {x y : V} (h : b = true) : [V.bl b, x, y] = [V.bl true, x, y] := by rw [h]
theorem h_require (D : Dfs w K mg) : Has P w K mg base 1 "require" spReq := by
  refine D.f_require.has sc_require (fun vs H Q E h => ?_) (fun f cdv A outer s H vs Q E hr h => ?_)
  · obtain ⟨x, y, rfl, _⟩ := h
    rfl
  · obtain ⟨x, y, rfl, q⟩ := h
    refine ⟨_, (pss_one (ps_if (pt_not (pt_val (pv 0))) (pss_one (ps_never)) pss_nil)), ?_⟩
    exact ⟨_, rfl, _, rfl, q⟩

/-! ### shapes -/
def spVS (K : PySem.W.Frag) : Sp := fun vs H Q _ => ∃ (v : V) (x : Vr), vs = [v] ∧ Tp K H v x.d ∧ okNm x.x = true ∧ ∀ H', Same H H' → Q (.bl true) H'
theorem h_has_variable_shape (D : Dfs w K mg) : Has P w K mg base 3 "has_variable_shape" (spVS K) := by
  refine D.f_has_variable_shape.has sc_has_variable_shape (fun vs H Q E h => ?_) (fun f cdv A outer s H vs Q E hr h => ?_)
  · obtain ⟨v, x, rfl, _⟩ := h
    rfl
  · obtain ⟨v, x, rfl, hd, hx, q⟩ := h
    obtain ⟨fN, gN, _⟩ := h_is_name (P := P) (base := base) D
    obtain ⟨fI, gI, _⟩ := h_is_integer (P := P) (base := base) D
    obtain ⟨a, xs, rfl, hS, hA⟩ := hd.tup_inv
    obtain ⟨v0, xs, rfl, t0, hA⟩ := hA.cons_inv
    obtain ⟨v1, xs, rfl, t1, hA⟩ := hA.cons_inv
    obtain ⟨v2, xs, rfl, t2, hA⟩ := hA.cons_inv
    obtain rfl := hA.nil_inv
    obtain rfl := t0.str_inv
    obtain rfl := t1.int_inv
    obtain rfl := t2.int_inv
    refine ⟨_, (pss_one (ps_ret (pc (h_is_tuple_with D 1) hr (pa_cons (pv 0) (pa_cons (pe_tup (pa_cons (pe_glob (v := .ref fN) (by rfl) gN rfl) (pa_cons (pe_glob (v := .ref fI) (by rfl) gI rfl) (pa_cons (pe_glob (v := .ref fI) (by rfl) gI rfl) pa_nil)))) pa_nil))))), ?_⟩
    refine ⟨_, rfl, len3_line, fun c nc => ?_⟩
    have s1 : Same H (upd H c (.tup [.ref fN, .ref fI, .ref fI])) := same_upd nc
    refine ⟨a, c, _, _, rfl, s1.tsm _ _ hS, .of upd_same, rfl, (by show 3 ≤ 1000; decide), fun i y cc hy hc => ?_, fun H' s' => q _ (s1.trans s')⟩
    match i with
    | 0 => cases hy; cases hc; exact chkName D (by decide) gN hx
    | 1 => cases hy; cases hc; exact chkInt D (by decide) gI
    | 2 => cases hy; cases hc; exact chkInt D (by decide) gI
    | i + 3 => simp at hy
def spVSs (K : PySem.W.Frag) : Sp := fun vs H Q _ => ∃ (v : V) (xs : List Vr), vs = [v] ∧ Tp K H v (.tuple (xs.map Vr.d)) ∧ xs.length ≤ 1000 ∧ (∀ x ∈ xs, okNm x.x = true) ∧ ∀ H', Same H H' → Q (.bl true) H'
theorem h_are_variable_shapes (D : Dfs w K mg) : Has P w K mg base 5 "are_variable_shapes" (spVSs K) := by
  refine D.f_are_variable_shapes.has sc_are_variable_shapes (fun vs H Q E h => ?_) (fun f cdv A outer s H vs Q E hr h => ?_)
  · obtain ⟨v, xs, rfl, _⟩ := h
    rfl
  · obtain ⟨v, xs, rfl, hd, hz, hx, q⟩ := h
    obtain ⟨a, ys, rfl, hS, hA⟩ := hd.tup_inv
    obtain ⟨fE, gE, _⟩ := h_has_variable_shape (P := P) (base := base) D
    refine ⟨_, (pss_one (ps_ret (pc (h_is_tuple_of D 3) hr (pa_cons (pv 0) (pa_cons (pe_glob (v := .ref fE) (by rfl) gE rfl) pa_nil))))), ?_⟩
    refine ⟨_, rfl, a, .ref fE, ys, rfl, hS, by rw [hA.map_len]; exact hz, fun i y hy => ?_, q⟩
    obtain ⟨x, _, hm, tp⟩ := hA.map_get hy
    exact chkOf (h_has_variable_shape D) (Nat.le_refl _) gE fun H1 Q1 s1 q1 => ⟨_, x, rfl, tp.mono s1.tsm, hx x hm, q1⟩
def spRows (K : PySem.W.Frag) : Sp := fun vs H Q _ => ∃ (v : V) (xs : List Rw), vs = [v] ∧ Tp K H v (.tuple (xs.map Rw.d)) ∧ xs.length ≤ 1000 ∧ (∀ r ∈ xs, r.ok = true ∧ r.parts.length ≤ 3) ∧ ∀ H', Same H H' → Q (.bl true) H'
theorem h_are_rows (D : Dfs w K mg) : Has P w K mg base 25 "are_rows" (spRows K) := by
  refine D.f_are_rows.has sc_are_rows (fun vs H Q E h => ?_) (fun f cdv A outer s H vs Q E hr h => ?_)
  · obtain ⟨v, xs, rfl, _⟩ := h
    rfl
  · obtain ⟨v, xs, rfl, hd, hz, hx, q⟩ := h
    obtain ⟨a, ys, rfl, hS, hA⟩ := hd.tup_inv
    obtain ⟨fE, gE, _⟩ := h_is_row (P := P) (base := base) D
    refine ⟨_, (pss_one (ps_ret (pc (h_is_tuple_of D 23) hr (pa_cons (pv 0) (pa_cons (pe_glob (v := .ref fE) (by rfl) gE rfl) pa_nil))))), ?_⟩
    refine ⟨_, rfl, a, .ref fE, ys, rfl, hS, by rw [hA.map_len]; exact hz, fun i y hy => ?_, q⟩
    obtain ⟨x, _, hm, tp⟩ := hA.map_get hy
    exact chkOf (h_is_row D) (Nat.le_refl _) gE fun H1 Q1 s1 q1 => ⟨_, x, rfl, tp.mono s1.tsm, (hx x hm).1, Nat.le_trans (hx x hm).2 (by decide), q1⟩
def spFS (K : PySem.W.Frag) : Sp := fun vs H Q _ => ∃ (v : V) (f : Fnc), vs = [v] ∧ Tp K H v f.d ∧ FnW f ∧ ∀ H', Same H H' → Q (.bl true) H'
theorem h_is_function_shape (D : Dfs w K mg) : Has P w K mg base 27 "is_function_shape" (spFS K) := by
  refine D.f_is_function_shape.has sc_is_function_shape (fun vs H Q E h => ?_) (fun f cdv A outer s H vs Q E hr h => ?_)
  · obtain ⟨v, x, rfl, _⟩ := h
    rfl
  · obtain ⟨v, x, rfl, hd, hx, q⟩ := h
    obtain ⟨fN, gN, _⟩ := h_is_name (P := P) (base := base) D
    obtain ⟨fI, gI, _⟩ := h_is_integer (P := P) (base := base) D
    obtain ⟨fV, gV, _⟩ := h_are_variable_shapes (P := P) (base := base) D
    obtain ⟨fM, gM, _⟩ := h_is_number (P := P) (base := base) D
    obtain ⟨fR, gR, _⟩ := h_are_rows (P := P) (base := base) D
    obtain ⟨a, xs, rfl, hS, hA⟩ := hd.tup_inv
    obtain ⟨v0, xs, rfl, t0, hA⟩ := hA.cons_inv
    obtain ⟨v1, xs, rfl, t1, hA⟩ := hA.cons_inv
    obtain ⟨v2, xs, rfl, t2, hA⟩ := hA.cons_inv
    obtain ⟨v3, xs, rfl, t3, hA⟩ := hA.cons_inv
    obtain ⟨v4, xs, rfl, t4, hA⟩ := hA.cons_inv
    obtain ⟨v5, xs, rfl, t5, hA⟩ := hA.cons_inv
    obtain rfl := hA.nil_inv
    obtain rfl := t0.str_inv
    obtain rfl := t1.int_inv
    obtain rfl := t2.int_inv
    obtain rfl := t4.int_inv
    refine ⟨_, (pss_one (ps_ret (pc (h_is_tuple_with D 25) hr (pa_cons (pv 0) (pa_cons (pe_tup (pa_cons (pe_glob (v := .ref fN) (by rfl) gN rfl) (pa_cons (pe_glob (v := .ref fI) (by rfl) gI rfl) (pa_cons (pe_glob (v := .ref fI) (by rfl) gI rfl) (pa_cons (pe_glob (v := .ref fV) (by rfl) gV rfl) (pa_cons (pe_glob (v := .ref fM) (by rfl) gM rfl) (pa_cons (pe_glob (v := .ref fR) (by rfl) gR rfl) pa_nil))))))) pa_nil))))), ?_⟩
    refine ⟨_, rfl, len6_line, fun c nc => ?_⟩
    have s1 : Same H (upd H c (.tup [.ref fN, .ref fI, .ref fI, .ref fV, .ref fM, .ref fR])) := same_upd nc
    refine ⟨a, c, _, _, rfl, s1.tsm _ _ hS, .of upd_same, rfl, (by show 6 ≤ 1000; decide), fun i y cc hy hc => ?_, fun H' s' => q _ (s1.trans s')⟩
    match i with
    | 0 => cases hy; cases hc; exact chkName D (by decide) gN hx.nm
    | 1 => cases hy; cases hc; exact chkInt D (by decide) gI
    | 2 => cases hy; cases hc; exact chkInt D (by decide) gI
    | 3 => cases hy; cases hc; exact chkOf (h_are_variable_shapes D) (by decide) gV fun H1 Q1 s2 q1 => ⟨_, _, rfl, t3.mono (s1.trans s2).tsm, Nat.le_trans hx.vlen (by decide), fun z hz => (hx.vars z hz).1, q1⟩
    | 4 => cases hy; cases hc; exact chkNum D (by decide) gM (Int.natCast_nonneg _)
    | 5 => cases hy; cases hc; exact chkOf (h_are_rows D) (by decide) gR fun H1 Q1 s2 q1 => ⟨_, _, rfl, t5.mono (s1.trans s2).tsm, hx.rlen, hx.rok, q1⟩
    | i + 6 => simp at hy
def spFSs (K : PySem.W.Frag) : Sp := fun vs H Q _ => ∃ (v : V) (fs : List Fnc), vs = [v] ∧ Tp K H v (.tuple (fs.map Fnc.d)) ∧ fs.length ≤ 1000 ∧ (∀ f ∈ fs, FnW f) ∧ ∀ H', Same H H' → Q (.bl true) H'
theorem h_are_function_shapes (D : Dfs w K mg) : Has P w K mg base 29 "are_function_shapes" (spFSs K) := by
  refine D.f_are_function_shapes.has sc_are_function_shapes (fun vs H Q E h => ?_) (fun f cdv A outer s H vs Q E hr h => ?_)
  · obtain ⟨v, xs, rfl, _⟩ := h
    rfl
  · obtain ⟨v, xs, rfl, hd, hz, hx, q⟩ := h
    obtain ⟨a, ys, rfl, hS, hA⟩ := hd.tup_inv
    obtain ⟨fE, gE, _⟩ := h_is_function_shape (P := P) (base := base) D
    refine ⟨_, (pss_one (ps_ret (pc (h_is_tuple_of D 27) hr (pa_cons (pv 0) (pa_cons (pe_glob (v := .ref fE) (by rfl) gE rfl) pa_nil))))), ?_⟩
    refine ⟨_, rfl, a, .ref fE, ys, rfl, hS, by rw [hA.map_len]; exact hz, fun i y hy => ?_, q⟩
    obtain ⟨x, _, hm, tp⟩ := hA.map_get hy
    exact chkOf (h_is_function_shape D) (Nat.le_refl _) gE fun H1 Q1 s1 q1 => ⟨_, x, rfl, tp.mono s1.tsm, hx x hm, q1⟩

/-! ### check_variables -/
theorem Fnc.inv {H : Hp} {v : V} {f : Fnc} (h : Tp K H v f.d) : ∃ a v3 v5, v = .ref a ∧ SqT K H a [.str f.nm, .int f.lo, .int f.hi, v3, .int f.many, v5] ∧ Tp K H v3 (.tuple (f.vars.map Vr.d)) ∧ Tp K H v5 (.tuple (f.rows.map Rw.d)) := by
  obtain ⟨a, xs, rfl, hS, hA⟩ := Tp.tup_inv h
  obtain ⟨v0, xs, rfl, t0, hA⟩ := hA.cons_inv
  obtain ⟨v1, xs, rfl, t1, hA⟩ := hA.cons_inv
  obtain ⟨v2, xs, rfl, t2, hA⟩ := hA.cons_inv
  obtain ⟨v3, xs, rfl, t3, hA⟩ := hA.cons_inv
  obtain ⟨v4, xs, rfl, t4, hA⟩ := hA.cons_inv
  obtain ⟨v5, xs, rfl, t5, hA⟩ := hA.cons_inv
  obtain rfl := hA.nil_inv
  obtain rfl := t0.str_inv
  obtain rfl := t1.int_inv
  obtain rfl := t2.int_inv
  obtain rfl := t4.int_inv
  exact ⟨a, v3, v5, rfl, hS, t3, t5⟩
theorem Vr.inv {H : Hp} {v : V} {x : Vr} (h : Tp K H v x.d) : ∃ a, v = .ref a ∧ SqT K H a [.str x.x, .int x.lo, .int x.hi] := by
  obtain ⟨a, xs, rfl, hS, hA⟩ := Tp.tup_inv h
  obtain ⟨v0, xs, rfl, t0, hA⟩ := hA.cons_inv
  obtain ⟨v1, xs, rfl, t1, hA⟩ := hA.cons_inv
  obtain ⟨v2, xs, rfl, t2, hA⟩ := hA.cons_inv
  obtain rfl := hA.nil_inv
  obtain rfl := t0.str_inv
  obtain rfl := t1.int_inv
  obtain rfl := t2.int_inv
  exact ⟨a, rfl, hS⟩
def spCV (K : PySem.W.Frag) : Sp := fun vs H Q _ => ∃ (k : Int) (v : V) (f : Fnc), vs = [.int k, v] ∧ Tp K H v f.d ∧ FnW f ∧ ∀ H', Same H H' → Q .non H'
theorem h_check_variables (D : Dfs w K mg) : Has P w K mg base 2 "check_variables" (spCV K) := by
  refine D.f_check_variables.has sc_check_variables (fun vs H Q E h => ?_) (fun f cdv A outer s H vs Q E hr h => ?_)
  · obtain ⟨k, v, f, rfl, _⟩ := h
    rfl
  · obtain ⟨k, v, fn, rfl, hd, hx, q⟩ := h
    obtain ⟨a, v3, v5, rfl, hS, t3, t5⟩ := Fnc.inv hd
    obtain ⟨a3, xs3, rfl, hS3, hA3⟩ := t3.tup_inv
    refine ⟨_, (pss_cons (ps_asg (pv 1) (pg_tup rfl (pgs_cons (pg_name (i := 2) sc_check_variables.nd rfl (.inl rfl)) (pgs_cons (pg_name (i := 3) sc_check_variables.nd rfl (.inl rfl)) (pgs_cons (pg_name (i := 4) sc_check_variables.nd rfl (.inl rfl)) (pgs_cons (pg_name (i := 5) sc_check_variables.nd rfl (.inl rfl)) (pgs_cons (pg_name (i := 6) sc_check_variables.nd rfl (.inl rfl)) (pgs_cons (pg_name (i := 7) sc_check_variables.nd rfl (.inl rfl)) pgs_nil))))))))
      (pss_cons (ps_expr (pc (h_require D) hr (pa_cons (pe_cmpR op_le (pv 3) (pv 4) (nomark _)) (pa_cons pe_str (pa_cons (pv 0) pa_nil)))))
      (pss_cons (ps_set (i := 8) sc_check_variables.nd rfl (.inl rfl) (pe_lst pa_nil))
      (pss_cons (ps_for PassesOwn.never rfl (pi_enumT (by rfl) D.b_enumerate (pa_cons (pv 5) pa_nil)) (pg_tup rfl (pgs_cons (pg_name (i := 9) sc_check_variables.nd rfl (.inl rfl)) (pgs_cons (pg_tup rfl (pgs_cons (pg_name (i := 10) sc_check_variables.nd rfl (.inl rfl)) (pgs_cons (pg_name (i := 11) sc_check_variables.nd rfl (.inl rfl)) (pgs_cons (pg_name (i := 12) sc_check_variables.nd rfl (.inl rfl)) pgs_nil)))) pgs_nil))) (pss_cons (ps_expr (pc (h_require D) hr (pa_cons (pe_and (pe_cmpR op_le (pv 11) (pv 12) (nomark _)) (pe_one (pe_cmpR op_notIn_seq (pv 10) (pv 8) (by rfl)))) (pa_cons pe_str (pa_cons (pe_tup (pa_cons (pv 0) (pa_cons (pv 9) pa_nil))) pa_nil)))))
      (pss_one (ps_expr (pe_bm PySem.F.plainAttrs_list PySem.F.slot_list_append PySem.F.type_list_append mt_append (pv 8) (pa_cons (pv 10) pa_nil))))))
      (pss_one (ps_expr (pc (h_require D) hr (pa_cons (pe_cmpR op_le (pv 6) (pe_callB call_len (by rfl) D.b_len (by decide +kernel) (pa_cons (pv 5) pa_nil)) (nomark _)) (pa_cons pe_str (pa_cons (pv 0) pa_nil)))))))))), ?_⟩
    refine ⟨_, rfl, a, _, rfl, hS, rfl, _, _, rfl, _, _, rfl, _, _, rfl, _, _, rfl, _, _, rfl, _, _, rfl, rfl, ?_⟩
    -- require(low <= high, ..)
    refine ⟨_, rfl, _, rfl, _, _, rfl, rfl, _, rfl, _, _, req1 (decide_eq_true hx.rng), ?_⟩
    -- known = []
    refine ⟨Nat.zero_le _, fun o no => ?_⟩
    have s1 : Same H (upd H o (.lst [])) := same_upd no
    refine ⟨_, rfl, a3, xs3, rfl, s1.tsm _ _ hS3, ?_⟩
    have hl3 : xs3.length = fn.vars.length := hA3.map_len
    have hv3 := hx.vlen
    refine for_enumT (K := K) (a := a3) (xs := xs3) (fun i σ H' => Same H H' ∧ H' o = some (.lst ((fn.names.take i).map V.str)) ∧ ∃ y9 y10 y11 y12, σ = [some (.int k), some (.ref a), some (.str fn.nm), some (.int fn.lo), some (.int fn.hi), some (.ref a3), some (.int fn.many), some v5, some (.ref o), y9, y10, y11, y12])
      ⟨s1, upd_same, none, none, none, none, rfl⟩ (fun i σ H' _ p => p.1.tsm _ _ hS3) (fun i x T σ H3 hx3 p nT => ?_) (fun σ H3 p => ?_)
    · obtain ⟨sm, eo, y9, y10, y11, y12, rfl⟩ := p
      obtain ⟨vr, hvi, hvm, tv⟩ := hA3.map_get hx3
      obtain ⟨av, rfl, hSv⟩ := Vr.inv tv
      have nTo : o ≠ T := ne_of_none eo nT
      have sT : Same H3 (upd H3 T (.tup [.int (i : Nat), .ref av])) := same_upd nT
      refine ⟨T, _, rfl, .of upd_same, rfl, _, _, rfl, _, _, rfl, ⟨av, _, rfl, (sm.trans sT).tsm _ _ hSv, rfl, _, _, rfl, _, _, rfl, _, _, rfl, rfl, rfl, ?_⟩⟩
      have hi : i < fn.vars.length := (List.getElem?_eq_some_iff.mp hvi).1
      have hni : fn.names[i]? = some vr.x := by unfold Fnc.names; rw [List.getElem?_map, hvi]; rfl
      have hnot : vr.x ∉ fn.names.take i := fun hm => by
        obtain ⟨j, hj, ej⟩ := List.getElem_of_mem hm
        rw [List.length_take] at hj
        have e1 : fn.names[j]? = some vr.x := by
          rw [List.getElem_take] at ej
          rw [List.getElem?_eq_getElem (by omega), ej]
        have := (List.getElem?_inj (by unfold Fnc.names; rw [List.length_map]; omega) hx.nd).mp (e1.trans hni.symm)
        omega
      -- require(least <= greatest and own not in known, ..)
      have eoT : (upd H3 T (.tup [.int (i : Nat), .ref av])) o = some (.lst ((fn.names.take i).map V.str)) := by
        rw [upd_ne nTo]
        exact eo
      refine ⟨_, rfl, _, rfl, _, _, rfl, rfl, _, rfl, ?_⟩
      rw [decide_eq_true (hx.vars vr hvm).2]
      refine ⟨_, rfl, _, rfl, o, _, rfl, .inl (.of eoT), rfl, flat_strs _, _, rfl, _, rfl, len2_line, fun c nc => ?_⟩
      have eocT : (upd (upd H3 T (.tup [.int (i : Nat), .ref av])) c (.tup [.int k, .int (i : Nat)])) o = some (.lst ((fn.names.take i).map V.str)) := by
        rw [upd_ne (ne_of_none eoT nc)]
        exact eoT
      have einv : (!inV (.str vr.x) ((fn.names.take i).map V.str)) = true := by rw [inV_str, decide_eq_false hnot]; rfl
      refine ⟨_, _, req1 einv, ?_⟩
      refine ⟨_, rfl, .inl ⟨rfl, _, .of eocT⟩, _, rfl, o, _, _, rfl, rfl, eocT, ?_, ?_⟩
      · rw [List.length_map, List.length_take]
        exact Nat.lt_of_le_of_lt (Nat.min_le_left _ _) (small1000 (by omega))
      · refine ⟨fun b z e => ?_, ?_, _, _, _, _, rfl⟩
        · have nb : b ≠ o := ne_of_none e no
          rw [upd_ne nb]
          exact same_upd nc _ _ (sT _ _ (sm _ _ e))
        · rw [upd_same, List.take_add_one, hni]
          simp
    · obtain ⟨sm, eo, y9, y10, y11, y12, rfl⟩ := p
      refine ⟨_, rfl, _, rfl, _, _, rfl, .inr ⟨xs3, sm.tsm _ _ hS3, rfl⟩, _, _, rfl, rfl, _, rfl, _, _, req1 (decide_eq_true (by rw [hl3]; have := hx.many; omega)), q _ sm⟩
end
end B9

/-! Rows that fit, blocks, the checker of programs. -/
namespace B9
open PySem PySem.Spec PyProof.Rows L2

theorem Rw.inv {K : PySem.W.Frag} {H : Hp} {v : V} {r : Rw} (h : Tp K H v r.d) : ∃ a xs, v = .ref a ∧ SqT K H a (.str r.word :: xs) ∧ TpAll K H xs r.rest := by
  obtain ⟨a, xs, rfl, hS, hA⟩ := Tp.tup_inv h
  obtain ⟨v0, ys, rfl, t0, hB⟩ := hA.cons_inv
  obtain rfl := t0.str_inv
  exact ⟨a, ys, rfl, hS, hB⟩
theorem call_inv {K : PySem.W.Frag} {H : Hp} {xs : List V} {x g : Str} {as : List Ex} (h : TpAll K H xs (Rw.call x g as).rest) : ∃ a ys, xs = [.str x, .str g, .ref a] ∧ SqT K H a ys ∧ TpAll K H ys (as.map Ex.d) := by
  obtain ⟨v0, xs, rfl, t0, h⟩ := h.cons_inv
  obtain ⟨v1, xs, rfl, t1, h⟩ := h.cons_inv
  obtain ⟨v2, xs, rfl, t2, h⟩ := h.cons_inv
  obtain rfl := h.nil_inv
  obtain rfl := t0.str_inv
  obtain rfl := t1.str_inv
  obtain ⟨a, ys, rfl, hS, hA⟩ := t2.tup_inv
  exact ⟨a, ys, rfl, hS, hA⟩
/-- a row with one expression, at its end -/
theorem one_inv {K : PySem.W.Frag} {H : Hp} {xs : List V} {r : Rw} {e : Ex} (hp : r.parts = [e]) (hc : ∀ x g as, r ≠ .call x g as) (h : TpAll K H xs r.rest) : ∃ ys v, xs = ys ++ [v] ∧ Tp K H v e.d := by
  cases r with
  | set x e' =>
    cases hp
    obtain ⟨v0, xs, rfl, t0, h⟩ := h.cons_inv
    obtain ⟨v1, xs, rfl, t1, h⟩ := h.cons_inv
    obtain rfl := h.nil_inv
    exact ⟨[v0], v1, rfl, t1⟩
  | ifr e' =>
    cases hp
    obtain ⟨v0, xs, rfl, t0, h⟩ := h.cons_inv
    obtain rfl := h.nil_inv
    exact ⟨[], v0, rfl, t0⟩
  | els => cases hp
  | whl e' =>
    cases hp
    obtain ⟨v0, xs, rfl, t0, h⟩ := h.cons_inv
    obtain rfl := h.nil_inv
    exact ⟨[], v0, rfl, t0⟩
  | nd => cases hp
  | call x g as => exact absurd rfl (hc x g as)
  | ret e' =>
    cases hp
    obtain ⟨v0, xs, rfl, t0, h⟩ := h.cons_inv
    obtain rfl := h.nil_inv
    exact ⟨[], v0, rfl, t0⟩
theorem iteF1 {b : Bool} {A B : Prop} (e : b = false) (h : B) : if b = true then A else B := by
  subst e
  exact iteF h
theorem iteT1 {b : Bool} {A B : Prop} (e : b = true) (h : A) : if b = true then A else B := by
  subst e
  exact iteT h
theorem at_last2 {x y : V} {ys : List V} : atI (x :: (ys ++ [y])) (-1) = some y := atI_last (x :: ys) y
theorem flat_bare : ([.str "else", .str "end"] : List V).all flatV = true := rfl

section
variable {P : Program} {w : World} {K : PySem.W.Frag} {mg : Str → Option Value} {base : Heap}
/-! ### places_in_row -/
def spPR (K : PySem.W.Frag) : Sp := fun vs H Q _ => ∃ (v : V) (r : Rw), vs = [v] ∧ Tp K H v r.d ∧ ∀ H', Same H H' → Q (.int r.parts.length) H'
theorem h_places_in_row (D : Dfs w K mg) : Has P w K mg base 1 "places_in_row" (spPR K) := by
  refine D.f_places_in_row.has sc_places_in_row (fun vs H Q E h => ?_) (fun f cdv A outer s H vs Q E hr h => ?_)
  · obtain ⟨v, r, rfl, _⟩ := h
    rfl
  · obtain ⟨v, r, rfl, hd, q⟩ := h
    obtain ⟨a, xs, rfl, hS, hA⟩ := Rw.inv hd
    refine ⟨_, (pss_cons (ps_if (pt_cmpR op_in_seq (pe_ix ix_tup (pv 0) pe_int (fun _ _ => rfl)) (pe_tup (pa_cons pe_str (pa_cons pe_str pa_nil))) (by rfl)) (pss_one (ps_ret pe_int)) pss_nil)
      (pss_one (ps_ret (pe_ifExp (pt_cmpR op_eq (pe_ix ix_tup (pv 0) pe_int (fun _ _ => rfl)) pe_str (nomark _)) (pe_callB call_len (by rfl) D.b_len (by decide +kernel) (pa_cons (pe_ix ix_tup (pv 0) pe_int (fun _ _ => rfl)) pa_nil)) pe_int)))), ?_⟩
    refine ⟨_, rfl, a, _, 0, _, rfl, rfl, hS, at0, len2_line, fun c nc => ?_⟩
    have s1 : Same H (upd H c (.tup [.str "else", .str "end"])) := same_upd nc
    have hS1 := s1.tsm _ _ hS
    refine ⟨c, _, rfl, .inr (.of upd_same), rfl, flat_bare, _, rfl, ?_⟩
    show if inV (.str r.word) [.str "else", .str "end"] = true then _ else _
    rw [word_bare]
    cases hb : r.bare with
    | true =>
      have e0 : (0 : Int) = (r.parts.length : Nat) := by cases r <;> first | rfl | cases hb
      have q' := q _ s1
      rw [← e0] at q'
      exact q'
    | false =>
      refine ⟨_, rfl, a, _, 0, _, rfl, rfl, hS1, at0, rfl, _, rfl, ?_⟩
      show if decide (V.str r.word = V.str "call") = true then _ else _
      rw [word_call]
      have q' := q _ s1
      cases r with
      | call x g as =>
        obtain ⟨b, ys, rfl, hb, hB⟩ := call_inv hA
        refine ⟨_, rfl, a, _, 3, _, rfl, rfl, hS1, at3, _, _, rfl, .inr ⟨ys, s1.tsm _ _ hb, rfl⟩, ?_⟩
        rw [hB.map_len]
        exact q'
      | set x e => exact q'
      | ifr e => exact q'
      | els => cases hb
      | whl e => exact q'
      | nd => cases hb
      | ret e => exact q'

/-! ### row_fits -/
/-- the counts by name, in the dict -/
def Cnts (kvs : List (Key × V)) (cnt : Str → Option Nat) : Prop := ∀ g, valV kvs (.inr g) = (cnt g).map fun n : Nat => V.int n
def spRF (K : PySem.W.Frag) : Sp := fun vs H Q _ => ∃ (v : V) (r : Rw) (na : Addr) (ns : List Str) (c : Addr) (kvs : List (Key × V)) (cnt : Str → Option Nat), vs = [v, .ref na, .ref c] ∧ Tp K H v r.d ∧ r.ok = true ∧ r.parts.length ≤ 3 ∧
  SqL K H na (ns.map V.str) ∧ H c = some (.dK kvs) ∧ Cnts kvs cnt ∧ rowFits ns cnt r = true ∧ ∀ H', Same H H' → Q (.bl true) H'
theorem h_row_fits (D : Dfs w K mg) : Has P w K mg base 21 "row_fits" (spRF K) := by
  refine D.f_row_fits.has sc_row_fits (fun vs H Q E h => ?_) (fun f cdv A outer s H vs Q E hr h => ?_)
  · obtain ⟨v, r, na, ns, c, kvs, cnt, rfl, _⟩ := h
    rfl
  · obtain ⟨v, r, na, ns, c, kvs, cnt, rfl, hd, hok, hp3, hN, hC, hcnt, hfit, q⟩ := h
    obtain ⟨a, xs, rfl, hS, hA⟩ := Rw.inv hd
    refine ⟨_, (pss_cons (ps_if (pt_cmpR op_eq (pe_ix ix_tup (pv 0) pe_int (fun _ _ => rfl)) pe_str (nomark _)) (pss_cons (ps_asg (pv 0) (pg_tup rfl (pgs_cons (pg_name (i := 3) sc_row_fits.nd rfl (.inl rfl)) (pgs_cons (pg_name (i := 4) sc_row_fits.nd rfl (.inl rfl)) (pgs_cons (pg_name (i := 5) sc_row_fits.nd rfl (.inl rfl)) (pgs_cons (pg_name (i := 6) sc_row_fits.nd rfl (.inl rfl)) pgs_nil))))))
      (pss_cons (ps_if (PW.pt (pw_or (pt_cmpR op_notIn_seq (pv 4) (pv 1) (by rfl)) (pw_or1 (pt_cmpR op_ne (pe_dget2 (hu_of hr) (pv 2) (pv 5) (pe_un un_neg pe_int) ⟨rfl, rfl, rfl, rfl⟩) (pe_callB call_len (by rfl) D.b_len (by decide +kernel) (pa_cons (pv 6) pa_nil)) (nomark _))))) (pss_one (ps_ret pe_bl)) pss_nil)
      (pss_one (ps_ret (pe_callB (cr_all rfl) (by rfl) D.b_all (by decide +kernel) (pa_cons (pe_lc (own := [("e", 7)]) (by rfl) sc_row_fits.nd (pi_tup (pv 6)) (blkOk_by (own := [("e", 7)]) (N := N_row_fits) (sc := defScope s_row_fits) (by decide +kernel)) (fun _ _ _ _ _ => (pg_name (i := 7) sc_row_fits.nd rfl (Or.inl rfl))) (fun _ _ _ _ _ => pts_nil) (fun _ _ _ _ _ => (pc (h_fits D) hr (pa_cons (pv 1) (pa_cons (pv 7) pa_nil))))) pa_nil)))))) pss_nil)
      (pss_cons (ps_if (PW.pt (pw_and (pt_cmpR op_eq (pe_ix ix_tup (pv 0) pe_int (fun _ _ => rfl)) pe_str (nomark _)) (pw_and1 (pt_cmpR op_notIn_seq (pe_ix ix_tup (pv 0) pe_int (fun _ _ => rfl)) (pv 1) (by rfl))))) (pss_one (ps_ret pe_bl)) pss_nil)
      (pss_one (ps_ret (pe_or (pe_cmpR op_in_seq (pe_ix ix_tup (pv 0) pe_int (fun _ _ => rfl)) (pe_tup (pa_cons pe_str (pa_cons pe_str pa_nil))) (by rfl)) (pe_one (pc (h_fits D) hr (pa_cons (pv 1) (pa_cons (pe_ix ix_tup (pv 0) (pe_un un_neg pe_int) (fun _ _ => rfl)) pa_nil))))))))), ?_⟩
    have hP := Rw.ok_parts hok
    refine ⟨_, rfl, a, _, 0, _, rfl, rfl, hS, at0, rfl, _, rfl, ?_⟩
    by_cases hcall : ∃ x g as, r = .call x g as
    · obtain ⟨x, g, as, rfl⟩ := hcall
      obtain ⟨b, ys, rfl, hb, hB⟩ := call_inv hA
      simp only [rowFits, Bool.and_eq_true, decide_eq_true_eq, List.all_eq_true] at hfit
      obtain ⟨⟨h1, h2⟩, h3⟩ := hfit
      refine iteT1 (decide_eq_true rfl) ?_
      have hg : valV kvs (.inr g) = some (.int as.length) := by rw [hcnt g, h2]; rfl
      refine ⟨_, rfl, a, _, rfl, hS, rfl, _, _, rfl, _, _, rfl, _, _, rfl, _, _, rfl, rfl, ?_⟩
      refine ⟨_, rfl, _, rfl, na, _, rfl, .inl hN, rfl, flat_strs ns, _, rfl, ?_⟩
      have e1 : (!inV (.str x) (ns.map V.str)) = false := by rw [inV_str, decide_eq_true h1]; rfl
      refine iteF1 e1 ?_
      have hD : DGet H c (.str g) (some (.int as.length)) := by
        rw [← hg]
        exact DGet.k (k := Sum.inr g) hC
      refine ⟨_, rfl, c, rfl, .inl ⟨kvs, .inl hC⟩, _, rfl, 1, rfl, _, hD, ?_⟩
      refine ⟨_, rfl, _, _, rfl, .inr ⟨ys, hb, rfl⟩, rfl, ?_⟩
      rw [hB.map_len]
      refine ⟨_, rfl, iteF1 (b := !decide (V.int (as.length : Nat) = V.int (as.length : Nat))) (by rw [decide_eq_true rfl]; rfl) ?_⟩
      refine ⟨_, rfl, b, rfl, ⟨ys, hb⟩, fun Dn nD => ?_⟩
      refine walkT (K := K) (a := b) (xs := ys) (PvM H Dn RTrue) (PvM.zero nD) (fun i H' _ p => p.1.tsm _ _ hb) (fun i y H3 hy p => ?_) (fun H3 p => ?_)
      · obtain ⟨e, hi, hm, tp⟩ := hB.map_get hy
        have hil := (List.getElem?_eq_some_iff.mp hi).1
        have hp3' : as.length ≤ 3 := hp3
        exact ⟨rfl, _, rfl, _, rfl, na, ns, _, e, rfl, .inl (p.1.seq hN), tp.mono p.1.tsm, (hP e hm).1, (hP e hm).2, h3 e hm, fun H4 s4 => PvM.step (RTrue.mono K) nD p (by omega) s4 rfl⟩
      · obtain ⟨bs, eb, hb⟩ := p.trues
        refine ⟨Dn, bs, rfl, .of eb, ?_⟩
        rw [hb]
        exact q _ p.1
    · have hnc : decide (V.str r.word = V.str "call") = false := by
        rw [word_call]
        cases r with
        | call x g as => exact absurd ⟨x, g, as, rfl⟩ hcall
        | _ => rfl
      refine iteF1 hnc ?_
      refine ⟨_, rfl, a, _, 0, _, rfl, rfl, hS, at0, rfl, _, rfl, ?_⟩
      refine (fun tail => ite2 (fun hc => ?_) (fun _ => tail)) ?_
      · have hset : ∃ x e, r = .set x e := by
          have hc' := hc
          rw [word_set] at hc'
          cases r with
          | set x e => exact ⟨x, e, rfl⟩
          | _ => cases hc'
        obtain ⟨x, e, rfl⟩ := hset
        obtain ⟨v0, zs, rfl, t0, hA2⟩ := hA.cons_inv
        obtain rfl := t0.str_inv
        simp only [rowFits, Bool.and_eq_true, decide_eq_true_eq] at hfit
        refine ⟨_, rfl, a, _, 1, _, rfl, rfl, hS, at1, _, rfl, na, _, rfl, .inl hN, rfl, flat_strs ns, _, rfl, ?_⟩
        have e1 : (!inV (.str x) (ns.map V.str)) = false := by rw [inV_str, decide_eq_true hfit.1]; rfl
        exact iteF1 e1 tail
      · refine ⟨_, rfl, a, _, 0, _, rfl, rfl, hS, at0, len2_line, fun c nc => ?_⟩
        have s1 : Same H (upd H c (.tup [.str "else", .str "end"])) := same_upd nc
        have hS1 := s1.tsm _ _ hS
        refine ⟨c, _, rfl, .inr (.of upd_same), rfl, flat_bare, _, rfl, ?_⟩
        show if inV (.str r.word) [.str "else", .str "end"] = true then _ else _
        rw [word_bare]
        cases hb : r.bare with
        | true => exact q _ s1
        | false =>
          obtain ⟨e, he, hef⟩ : ∃ e, r.parts = [e] ∧ e.fits ns = true := by
            cases r with
            | call x g as => exact absurd ⟨x, g, as, rfl⟩ hcall
            | els => cases hb
            | nd => cases hb
            | set x e =>
              simp only [rowFits, Bool.and_eq_true] at hfit
              exact ⟨e, rfl, hfit.2⟩
            | ifr e => exact ⟨e, rfl, hfit⟩
            | whl e => exact ⟨e, rfl, hfit⟩
            | ret e => exact ⟨e, rfl, hfit⟩
          obtain ⟨ys, y, rfl, ty⟩ := one_inv he (fun x g as z => hcall ⟨x, g, as, z⟩) hA
          obtain ⟨ok, dp⟩ := hP e (by rw [he]; exact List.mem_singleton.mpr rfl)
          refine ⟨_, rfl, _, rfl, _, rfl, a, _, -1, _, rfl, rfl, hS1, at_last2, na, ns, y, e, rfl, .inl (s1.seq hN), ty.mono s1.tsm, ok, dp, hef, fun H4 s4 => q _ (s1.trans s4)⟩
end
end B9

/-! Blocks: the stack of the checker. -/
namespace B9
open PySem PySem.Spec PyProof.Rows L2

/-- all but the thing at a stays -/
def But (a : Addr) (H H' : Hp) : Prop := ∀ b o, b ≠ a → H b = some o → H' b = some o
section
variable {K : PySem.W.Frag} {a : Addr} {H H' H1 H2 : Hp}
theorem But.refl : But a H H := fun _ _ _ e => e
theorem But.trans (x : But a H H1) (y : But a H1 H2) : But a H H2 := fun b o n e => y b o n (x b o n e)
theorem _root_.L2.Same.but (s : Same H H') : But a H H' := fun b o _ e => s b o e
theorem but_upd {o : HO} : But a H (upd H a o) := fun b o n e => by
  rw [upd_ne n]
  exact e
theorem But.tsm (x : But a H H') {o : HO} (e : H a = some o) (n : notTup o = true) : TSm K H H' := fun b xs q => by
  rcases q with (q | ⟨ob, q⟩) | q
  · exact .inl (.inl (x _ _ (ne_of q e (fun z => by rw [← z] at n; cases n)) q))
  · exact .inl (.inr ⟨ob, x _ _ (ne_of q e (fun z => by rw [← z] at n; cases n)) q⟩)
  · exact .inr q
end

inductive BK | i | w | e
  deriving DecidableEq
def BK.word : BK → Str
  | i => "if"
  | w => "while"
  | e => "else"
abbrev Stk := List (BK × Nat)
def SD (x : BK × Nat) : PyData := .tuple [.str x.1.word, .int x.2]
/-- the data of a stack: its top stands last -/
def stD (st : Stk) : List PyData := st.reverse.map SD
def stepB (r : Nat) : Rw → Stk → Option Stk
  | .ifr _, st => some ((.i, r) :: st)
  | .whl _, st => some ((.w, r) :: st)
  | .els, (.i, j) :: st => some ((.e, j) :: st)
  | .els, _ => none
  | .nd, _ :: st => some st
  | .nd, [] => none
  | _, st => some st
theorem BK.ok : ∀ k : BK, PyData.strOk k.word = true
  | .i => (by decide +kernel : PyData.strOk ("if" : Str) = true)
  | .w => (by decide +kernel : PyData.strOk ("while" : Str) = true)
  | .e => (by decide +kernel : PyData.strOk ("else" : Str) = true)
theorem SD.lay (x : BK × Nat) : (SD x).canLay0 = true ∧ (SD x).depth ≤ 1 := by
  refine ⟨layT fun d hd => ?_, depT (n := 0) fun d hd => ?_⟩
  · simp only [List.mem_cons, List.not_mem_nil, or_false] at hd
    rcases hd with rfl | rfl
    · simp only [PyData.canLay0]; exact x.1.ok
    · simp only [PyData.canLay0]
  · simp only [List.mem_cons, List.not_mem_nil, or_false] at hd
    rcases hd with rfl | rfl <;> simp only [PyData.depth] <;> omega
theorem shapedL {ds : List PyData} (h : ∀ d ∈ ds, d.canLay0 = true ∧ d.depth ≤ 60) : SeqAt.shaped (.list ds) = true := by
  refine shaped_of ?_ ?_
  · simp only [PyData.canLay0]
    exact layAll fun d hd => (h d hd).1
  · simp only [PyData.depth]
    have := depAll (ds := ds) (n := 60) fun d hd => (h d hd).2
    omega
theorem stD_shaped (st : Stk) : SeqAt.shaped (.list (stD st)) = true := shapedL fun d hd => by
  unfold stD at hd
  obtain ⟨x, _, rfl⟩ := List.mem_map.mp hd
  exact ⟨(SD.lay x).1, Nat.le_trans (SD.lay x).2 (by decide)⟩
theorem shaped_nilL : SeqAt.shaped (.list []) = true := by decide +kernel
theorem eqvL_nil (ds : List PyData) : PyData.eqv (.list ds) (.list []) = ds.isEmpty := by
  cases ds <;> simp [PyData.eqv, PyData.eqvAll]
theorem stD_cons (x : BK × Nat) (st : Stk) : stD (x :: st) = stD st ++ [SD x] := by
  unfold stD
  rw [List.reverse_cons, List.map_append]
  rfl
theorem stD_nil : stD [] = [] := rfl
theorem stD_len (st : Stk) : (stD st).length = st.length := by
  unfold stD
  rw [List.length_map, List.length_reverse]
/-- what stands last -/
theorem TpAll.last {K : PySem.W.Frag} {H : Hp} {xs : List V} {ds : List PyData} {d : PyData} (h : TpAll K H xs (ds ++ [d])) : ∃ ys v, xs = ys ++ [v] ∧ TpAll K H ys ds ∧ Tp K H v d := by
  induction ds generalizing xs with
  | nil =>
    obtain ⟨v, ys, rfl, t, h⟩ := TpAll.cons_inv h
    obtain rfl := h.nil_inv
    exact ⟨[], v, rfl, .nil, t⟩
  | cons e ds ih =>
    obtain ⟨v, zs, rfl, t, h⟩ := TpAll.cons_inv h
    obtain ⟨ys, v', rfl, hy, t'⟩ := ih h
    exact ⟨v :: ys, v', rfl, .cons t hy, t'⟩
theorem SD.inv {K : PySem.W.Frag} {H : Hp} {v : V} {x : BK × Nat} (h : Tp K H v (SD x)) : ∃ a, v = .ref a ∧ SqT K H a [.str x.1.word, .int x.2] := by
  obtain ⟨a, xs, rfl, hS, hA⟩ := Tp.tup_inv h
  obtain ⟨v0, xs, rfl, t0, hA⟩ := hA.cons_inv
  obtain ⟨v1, xs, rfl, t1, hA⟩ := hA.cons_inv
  obtain rfl := hA.nil_inv
  obtain rfl := t0.str_inv
  obtain rfl := t1.int_inv
  exact ⟨a, rfl, hS⟩
theorem ifP {c A B : Prop} [Decidable c] (h : c) (x : A) : if c then A else B := by
  rw [if_pos h]
  exact x
theorem ifN {c A B : Prop} [Decidable c] (h : ¬ c) (x : B) : if c then A else B := by
  rw [if_neg h]
  exact x
theorem m_if1 : ("if" : Str) ∈ ((["if"] : List Str) ++ (["while"] : List Str)) := by decide +kernel
theorem m_wh1 : ("while" : Str) ∈ ((["if"] : List Str) ++ (["while"] : List Str)) := by decide +kernel
theorem m_el1 : ¬ ("else" : Str) ∈ ((["if"] : List Str) ++ (["while"] : List Str)) := by decide +kernel
theorem m_el2 : ("else" : Str) ∈ (["else"] : List Str) := by decide +kernel
theorem m_nd1 : ¬ ("end" : Str) ∈ ((["if"] : List Str) ++ (["while"] : List Str)) := by decide +kernel
theorem m_nd2 : ¬ ("end" : Str) ∈ (["else"] : List Str) := by decide +kernel
theorem m_nd3 : ("end" : Str) ∈ (["end"] : List Str) := by decide +kernel
theorem m_oth {x : Str} (h : x = "set" ∨ x = "call" ∨ x = "return") : ¬ x ∈ ((["if"] : List Str) ++ (["while"] : List Str)) ∧ ¬ x ∈ (["else"] : List Str) ∧ ¬ x ∈ (["end"] : List Str) := by
  rcases h with rfl | rfl | rfl <;> decide +kernel
theorem get_last {ys : List V} {v : V} : (ys ++ [v])[(ys ++ [v]).length - 1]? = some v := by simp

section
variable {P : Program} {w : World} {K : PySem.W.Frag} {mg : Str → Option Value} {base : Heap}
def spCB (K : PySem.W.Frag) : Sp := fun vs H Q _ => ∃ (v at' : V) (r : Nat) (rw' : Rw) (oa : Addr) (xs : List V) (st st' : Stk), vs = [v, .int r, .ref oa, at'] ∧ Tp K H v rw'.d ∧ H oa = some (.lst xs) ∧ TpAll K H xs (stD st) ∧
  st.length ≤ 1000 ∧ stepB r rw' st = some st' ∧ ∀ H' xs', But oa H H' → H' oa = some (.lst xs') → TpAll K H' xs' (stD st') → Q .non H'
theorem h_check_block (D : Dfs w K mg) : Has P w K mg base 2 "check_block" (spCB K) := by
  refine D.f_check_block.has sc_check_block (fun vs H Q E h => ?_) (fun f cdv A outer s H vs Q E hr h => ?_)
  · obtain ⟨v, at', r, rw', oa, xs, st, st', rfl, _⟩ := h
    rfl
  · obtain ⟨v, at', r, row, oa, xs, st, st', rfl, hd, hO, hT, hl, hst, q⟩ := h
    obtain ⟨a, ys, rfl, hS, hA⟩ := Rw.inv hd
    have hz : xs.length < sizeLine := by rw [hT.length, stD_len]; exact small1000 (by omega)
    refine ⟨_, (pss_one (ps_match (pe_ix ix_tup (pv 0) pe_int (fun _ _ => rfl))
      (mc_cons (pat_or2 pat_val pat_val) (pss_one (ps_expr (pe_bm PySem.F.plainAttrs_list PySem.F.slot_list_append PySem.F.type_list_append mt_append (pv 2) (pa_cons (pe_tup (pa_cons (pe_ix ix_tup (pv 0) pe_int (fun _ _ => rfl)) (pa_cons (pv 1) pa_nil))) pa_nil))))
      (mc_cons pat_val (pss_cons (ps_expr (pc (h_require D) hr (pa_cons (pe_and (pe_cmpR (op_neD hr.units) (pv 2) (pe_lst pa_nil) (nomark _)) (pe_one (pe_cmpR op_eq (pe_ix ix_tup (pe_ix ix_list (pv 2) (pe_un un_neg pe_int) (fun _ _ => rfl)) pe_int (fun _ _ => rfl)) pe_str (nomark _)))) (pa_cons pe_str (pa_cons (pv 3) pa_nil)))))
        (pss_one (ps_expr (pe_bm PySem.F.plainAttrs_list PySem.F.slot_list_append PySem.F.type_list_append mt_append (pv 2) (pa_cons (pe_tup (pa_cons pe_str (pa_cons (pe_ix ix_tup (pe_bm0 PySem.F.plainAttrs_list PySem.F.slot_list_pop PySem.F.type_list_pop mt_pop (pv 2)) pe_int (fun _ _ => rfl)) pa_nil))) pa_nil)))))
      (mc_cons pat_val (pss_cons (ps_expr (pc (h_require D) hr (pa_cons (pe_cmpR (op_neD hr.units) (pv 2) (pe_lst pa_nil) (nomark _)) (pa_cons pe_str (pa_cons (pv 3) pa_nil)))))
        (pss_one (ps_expr (pe_bm0 PySem.F.plainAttrs_list PySem.F.slot_list_pop PySem.F.type_list_pop mt_pop (pv 2))))) mc_nil))))), ?_⟩
    refine ⟨_, rfl, a, _, 0, _, rfl, rfl, hS, at0, _, rfl, ?_⟩
    have push : ∀ (k : BK) (H' : Hp) (T : Addr) (zs : List V) (s' : Stk), SqT K H' T [.str k.word, .int r] → TpAll K H' zs (stD s') → TpAll K H' (zs ++ [.ref T]) (stD ((k, r) :: s')) := fun k H' T zs s' h1 h2 => by
      rw [stD_cons]
      exact h2.append (.cons (.tup h1 (.cons (.str _) (.cons (.int _) .nil))) .nil)
    have wz : ∀ zs : List V, zs.length ≤ xs.length → zs.length < sizeLine := fun zs h => Nat.lt_of_le_of_lt h hz
    cases row with
    | ifr e =>
      cases hst
      refine ifP m_if1 ?_
      refine ⟨_, rfl, .inl ⟨rfl, _, .of hO⟩, _, rfl, a, _, 0, _, rfl, rfl, hS, at0, _, rfl, len2_line, fun c nc => ?_⟩
      have s1 : Same H (upd H c (.tup [.str "if", .int (r : Nat)])) := same_upd nc
      refine ⟨oa, xs, _, rfl, rfl, s1 _ _ hO, hz, ?_⟩
      have t2 : TSm K (upd H c (.tup [.str "if", .int (r : Nat)])) (upd (upd H c (.tup [.str "if", .int (r : Nat)])) oa (.lst (xs ++ [.ref c]))) := tsm_upd (s1 _ _ hO) rfl
      exact q _ _ (s1.but.trans but_upd) upd_same (push .i _ c xs st (t2 _ _ (.of upd_same)) (hT.mono (s1.tsm.trans t2)))
    | whl e =>
      cases hst
      refine ifP m_wh1 ?_
      refine ⟨_, rfl, .inl ⟨rfl, _, .of hO⟩, _, rfl, a, _, 0, _, rfl, rfl, hS, at0, _, rfl, len2_line, fun c nc => ?_⟩
      have s1 : Same H (upd H c (.tup [.str "while", .int (r : Nat)])) := same_upd nc
      refine ⟨oa, xs, _, rfl, rfl, s1 _ _ hO, hz, ?_⟩
      have t2 : TSm K (upd H c (.tup [.str "while", .int (r : Nat)])) (upd (upd H c (.tup [.str "while", .int (r : Nat)])) oa (.lst (xs ++ [.ref c]))) := tsm_upd (s1 _ _ hO) rfl
      exact q _ _ (s1.but.trans but_upd) upd_same (push .w _ c xs st (t2 _ _ (.of upd_same)) (hT.mono (s1.tsm.trans t2)))
    | els =>
      obtain ⟨j, st0, rfl, rfl⟩ : ∃ j st0, st = (.i, j) :: st0 ∧ st' = (.e, j) :: st0 := by
        match st, hst with
        | (.i, j) :: st0, hst => cases hst; exact ⟨j, st0, rfl, rfl⟩
      rw [stD_cons] at hT
      obtain ⟨zs, y, rfl, hZ, ty⟩ := hT.last
      obtain ⟨b, rfl, hSb⟩ := SD.inv ty
      refine ifN m_el1 (ifP m_el2 ?_)
      refine ⟨_, rfl, Nat.zero_le _, fun c nc => ?_⟩
      have s1 : Same H (upd H c (.lst [])) := same_upd nc
      refine ⟨.list (stD ((.i, j) :: st0)), .list [], .lst (.of (s1 _ _ hO)) (by rw [stD_cons]; exact (hT.mono s1.tsm).dp), .lst (.of upd_same) .nil, stD_shaped _, shaped_nilL, _, rfl, ?_⟩
      have e1 : (!PyData.eqv (.list (stD ((.i, j) :: st0))) (.list [])) = true := by
        rw [eqvL_nil, stD_cons]
        cases stD st0 <;> rfl
      have ew : decide (V.str (BK.word .i) = V.str "if") = true := by decide +kernel
      refine iteT1 e1 ?_
      have hO1 := s1 _ _ hO
      have hSb1 := s1.tsm _ _ hSb
      refine ⟨_, rfl, _, rfl, oa, _, -1, _, rfl, rfl, SqL.of hO1, atI_last zs _, b, _, 0, _, rfl, rfl, hSb1, at0, rfl, _, rfl, _, _, req1 ew, ?_⟩
      refine ⟨_, rfl, .inl ⟨rfl, _, .of hO1⟩, _, rfl, .inl ⟨rfl, _, .of hO1⟩, oa, _, _, rfl, rfl, hO1, get_last, ?_⟩
      have t1 : TSm K H (upd (upd H c (.lst [])) oa (.lst (zs ++ [V.ref b]).dropLast)) := s1.tsm.trans (tsm_upd hO1 rfl)
      refine ⟨b, _, 1, _, rfl, rfl, t1 _ _ hSb, at1, len2_line, fun c2 nc2 => ?_⟩
      generalize hG : upd (upd H c (.lst [])) oa (.lst (zs ++ [V.ref b]).dropLast) = G at t1 nc2
      have hOG : G oa = some (.lst zs) := by rw [← hG, upd_same, List.dropLast_concat]
      have bG : But oa H G := by
        rw [← hG]
        exact s1.but.trans but_upd
      have s2 : Same G (upd G c2 (.tup [.str "else", .int (j : Nat)])) := same_upd nc2
      refine ⟨oa, zs, _, rfl, rfl, s2 _ _ hOG, by rw [List.length_append] at hz; omega, ?_⟩
      have t2 : TSm K (upd G c2 (.tup [.str "else", .int (j : Nat)])) (upd (upd G c2 (.tup [.str "else", .int (j : Nat)])) oa (.lst (zs ++ [.ref c2]))) := tsm_upd (s2 _ _ hOG) rfl
      refine q _ _ ((bG.trans s2.but).trans but_upd) upd_same ?_
      rw [stD_cons]
      exact (hZ.mono (t1.trans (s2.tsm.trans t2))).append (.cons (.tup (t2 _ _ (.of upd_same)) (.cons (.str _) (.cons (.int _) .nil))) .nil)
    | nd =>
      obtain ⟨x0, rfl⟩ : ∃ x0, st = x0 :: st' := by
        match st, hst with
        | x0 :: st0, hst => cases hst; exact ⟨x0, rfl⟩
      have hT0 := hT
      rw [stD_cons] at hT
      obtain ⟨zs, y, rfl, hZ, ty⟩ := hT.last
      refine ifN m_nd1 (ifN m_nd2 (ifP m_nd3 ?_))
      refine ⟨_, rfl, Nat.zero_le _, fun c nc => ?_⟩
      have s1 : Same H (upd H c (.lst [])) := same_upd nc
      have e1 : (!PyData.eqv (.list (stD (x0 :: st'))) (.list [])) = true := by
        rw [eqvL_nil, stD_cons]
        cases stD st' <;> rfl
      have hO1 := s1 _ _ hO
      refine ⟨.list (stD (x0 :: st')), .list [], .lst (.of hO1) (hT0.mono s1.tsm).dp, .lst (.of upd_same) .nil, stD_shaped _, shaped_nilL, _, rfl, _, _, req1 e1, ?_⟩
      refine ⟨_, rfl, .inl ⟨rfl, _, .of hO1⟩, oa, _, _, rfl, rfl, hO1, get_last, ?_⟩
      rw [List.dropLast_concat]
      exact q _ _ (s1.but.trans but_upd) upd_same (hZ.mono (s1.tsm.trans (tsm_upd hO1 rfl)))
    | set x e =>
      cases hst
      obtain ⟨n1, n2, n3⟩ := m_oth (x := "set") (.inl rfl)
      exact ifN n1 (ifN n2 (ifN n3 (q _ _ But.refl hO hT)))
    | call x g as =>
      cases hst
      obtain ⟨n1, n2, n3⟩ := m_oth (x := "call") (.inr (.inl rfl))
      exact ifN n1 (ifN n2 (ifN n3 (q _ _ But.refl hO hT)))
    | ret e =>
      cases hst
      obtain ⟨n1, n2, n3⟩ := m_oth (x := "return") (.inr (.inr rfl))
      exact ifN n1 (ifN n2 (ifN n3 (q _ _ But.refl hO hT)))
end
end B9

/-! The checker of rows, of programs. -/
namespace B9
open PySem PySem.Spec PyProof.Rows L2

/-! ### a comprehension whose items are known ahead -/
def PvX (S : Hp) (D : Addr) (ys : List V) (i : Nat) (H : Hp) : Prop := Same S H ∧ H D = some (.lst (ys.take i))
section
variable {S : Hp} {D : Addr} {ys : List V} {i : Nat} {H H' : Hp} {v : V}
theorem PvX.zero (n : S D = none) : PvX S D ys 0 (upd S D (.lst [])) := ⟨same_upd n, by rw [upd_same, List.take_zero]⟩
theorem PvX.step (n : S D = none) (p : PvX S D ys i H) (hi : i < 1000000) (s : Same H H') (e : ys[i]? = some v) :
    ∃ acc, H' D = some (.lst acc) ∧ acc.length < sizeLine ∧ PvX S D ys (i + 1) (upd H' D (.lst (acc ++ [v]))) := by
  refine ⟨_, s _ _ p.2, ?_, same_at n (p.1.trans s), ?_⟩
  · rw [List.length_take]
    exact Nat.lt_of_le_of_lt (Nat.min_le_left _ _) (Nat.lt_trans hi big6)
  · rw [upd_same, List.take_add_one, e]
    rfl
theorem PvX.done (p : PvX S D ys ys.length H) : H D = some (.lst ys) := by
  have h := p.2
  rw [List.take_length] at h
  exact h
end
theorem at5 {x0 x1 x2 x3 x4 x5 : V} {xs : List V} : atI (x0 :: x1 :: x2 :: x3 :: x4 :: x5 :: xs) 5 = some x5 := atI_nat (j := 5) rfl
theorem at4 {x0 x1 x2 x3 x4 : V} {xs : List V} : atI (x0 :: x1 :: x2 :: x3 :: x4 :: xs) 4 = some x4 := atI_nat (j := 4) rfl
/-- the stacks of the blocks, row by row -/
def RowsOk (rows : List Rw) : Prop := ∃ sts : Nat → Stk, sts 0 = [] ∧ sts rows.length = [] ∧ (∀ i, (sts i).length ≤ 1000) ∧ ∀ i row, rows[i]? = some row → stepB i row (sts i) = some (sts (i + 1))

section
variable {P : Program} {w : World} {K : PySem.W.Frag} {mg : Str → Option Value} {base : Heap}
def spCR (K : PySem.W.Frag) : Sp := fun vs H Q _ => ∃ (k : Int) (v : V) (fn : Fnc) (c : Addr) (kvs : List (Key × V)) (cnt : Str → Option Nat), vs = [.int k, v, .ref c] ∧ Tp K H v fn.d ∧ FnW fn ∧ H c = some (.dK kvs) ∧ Cnts kvs cnt ∧
  (∀ r ∈ fn.rows, rowFits fn.names cnt r = true) ∧ RowsOk fn.rows ∧ ∀ H', Same H H' → Q .non H'
theorem h_check_rows (D : Dfs w K mg) : Has P w K mg base 22 "check_rows" (spCR K) := by
  refine D.f_check_rows.has sc_check_rows (fun vs H Q E h => ?_) (fun f cdv A outer s H vs Q E hr h => ?_)
  · obtain ⟨k, v, fn, c, kvs, cnt, rfl, _⟩ := h
    rfl
  · obtain ⟨k, v, fn, c, kvs, cnt, rfl, hd, hx, hC, hcnt, hfit, ⟨sts, st0, st1, stl, hst⟩, q⟩ := h
    obtain ⟨a, v3, v5, rfl, hS, t3, t5⟩ := Fnc.inv hd
    obtain ⟨a3, xs3, rfl, hS3, hA3⟩ := t3.tup_inv
    obtain ⟨a5, xs5, rfl, hS5, hA5⟩ := t5.tup_inv
    refine ⟨_, (pss_cons (ps_setLc (i := 3) (own := [("own", 7)]) (te := tOp (rIxT K) (tVar 7) (tC (.int 0))) (by rfl) sc_check_rows.nd rfl rfl (sw_true rfl rfl rfl (by decide +kernel)) (pi_tup (pe_ix ix_tup (pv 1) pe_int (fun _ _ => rfl))) (blkOk_by (own := [("own", 7)]) (N := N_check_rows) (sc := defScope s_check_rows) (by decide +kernel)) (fun _ _ _ _ _ => (pg_name (i := 7) sc_check_rows.nd rfl (Or.inl rfl))) (fun _ _ _ _ _ => pts_nil) (fun _ _ _ _ _ => (pe_ix ix_tup (pv 7) pe_int (fun _ _ => rfl))))
      (pss_cons (ps_set (i := 4) sc_check_rows.nd rfl (.inl rfl) (pe_lst pa_nil))
      (pss_cons (ps_for PassesOwn.never rfl (pi_enumT (by rfl) D.b_enumerate (pa_cons (pe_ix ix_tup (pv 1) pe_int (fun _ _ => rfl)) pa_nil)) (pg_tup rfl (pgs_cons (pg_name (i := 5) sc_check_rows.nd rfl (.inl rfl)) (pgs_cons (pg_name (i := 6) sc_check_rows.nd rfl (.inl rfl)) pgs_nil))) (pss_cons (ps_expr (pc (h_check_block D) hr (pa_cons (pv 6) (pa_cons (pv 5) (pa_cons (pv 4) (pa_cons (pe_tup (pa_cons (pv 0) (pa_cons (pv 5) pa_nil))) pa_nil))))))
      (pss_one (ps_expr (pc (h_require D) hr (pa_cons (pc (h_row_fits D) hr (pa_cons (pv 6) (pa_cons (pv 3) (pa_cons (pv 2) pa_nil)))) (pa_cons pe_str (pa_cons (pe_tup (pa_cons (pv 0) (pa_cons (pv 5) pa_nil))) pa_nil))))))))
      (pss_one (ps_if (pt_cmpR (op_neD hr.units) (pv 4) (pe_lst pa_nil) (nomark _)) (pss_one (ps_never)) pss_nil))))), ?_⟩
    have hl3 : xs3.length = fn.vars.length := hA3.map_len
    have hv3 := hx.vlen
    refine ⟨_, rfl, a, _, 3, _, rfl, rfl, hS, at3, a3, rfl, ⟨_, hS3⟩, fun Dn nD => ?_⟩
    refine lc_tup (K := K) (a := a3) (xs := xs3) (PvX H Dn (fn.names.map V.str)) (PvX.zero nD) (fun i H' _ p => p.1.tsm _ _ hS3) (fun i x H3 hx3 p => ?_) (fun H3 p => ?_)
    · obtain ⟨vr, hvi, hvm, tv⟩ := hA3.map_get hx3
      obtain ⟨av, rfl, hSv⟩ := Vr.inv tv
      have hi : i < fn.vars.length := (List.getElem?_eq_some_iff.mp hvi).1
      refine ⟨rfl, _, rfl, av, _, 0, _, rfl, rfl, p.1.tsm _ _ hSv, at0, ?_⟩
      exact PvX.step nD p (by omega) (Same.refl _) (by rw [List.getElem?_map]; unfold Fnc.names; rw [List.getElem?_map, hvi]; rfl)
    · have eN : H3 Dn = some (.lst (fn.names.map V.str)) := by
        refine PvX.done (S := H) ?_
        have el : (fn.names.map V.str).length = xs3.length := by rw [hl3, List.length_map]; unfold Fnc.names; rw [List.length_map]
        rw [el]
        exact p
      have sH := p.1
      refine ⟨Nat.zero_le _, fun o no => ?_⟩
      have sO : Same H3 (upd H3 o (.lst [])) := same_upd no
      have hoD : Dn ≠ o := ne_of_none eN no
      have hn : ∀ b ob, H b = some ob → b ≠ o := fun b ob e => ne_of_none (sH _ _ e) no
      refine ⟨_, rfl, a, _, 5, _, rfl, rfl, (sH.trans sO).tsm _ _ hS, at5, a5, xs5, rfl, (sH.trans sO).tsm _ _ hS5, ?_⟩
      have hl5 : xs5.length = fn.rows.length := hA5.map_len
      refine for_enumT (K := K) (a := a5) (xs := xs5) (fun i σ H' => Same H H' ∧ H' Dn = some (.lst (fn.names.map V.str)) ∧ (∃ zs, H' o = some (.lst zs) ∧ TpAll K H' zs (stD (sts i))) ∧ ∃ y5 y6 y7, σ = [some (.int k), some (.ref a), some (.ref c), some (.ref Dn), some (.ref o), y5, y6, y7])
        ⟨sH.trans sO, sO _ _ eN, ⟨[], upd_same, by rw [st0]; exact .nil⟩, none, none, none, rfl⟩ (fun i σ H' _ p => p.1.tsm _ _ hS5) (fun i x T σ H4 hx5 p4 nT => ?_) (fun σ H4 p4 => ?_)
      · obtain ⟨sm, eD, ⟨zs, eo, hz⟩, y5, y6, y7, rfl⟩ := p4
        obtain ⟨row, hri, hrm, tr⟩ := hA5.map_get hx5
        have sT : Same H4 (upd H4 T (.tup [.int (i : Nat), x])) := same_upd nT
        refine ⟨T, _, rfl, .of upd_same, rfl, _, _, rfl, _, _, rfl, rfl, ?_⟩
        -- check_block
        refine ⟨_, rfl, _, rfl, _, rfl, _, rfl, _, rfl, len2_line, fun c2 nc2 => ?_⟩
        generalize hG : upd H4 T (.tup [.int (i : Nat), x]) = G at sT nc2
        have s2 : Same G (upd G c2 (.tup [.int k, .int (i : Nat)])) := same_upd nc2
        have s42 := sT.trans s2
        refine ⟨x, _, i, row, o, zs, sts i, sts (i + 1), rfl, tr.mono (sm.trans s42).tsm, s42 _ _ eo, hz.mono s42.tsm, stl i, hst i row hri, fun H5 zs5 b5 e5 h5 => ?_⟩
        have b45 : But o H4 H5 := s42.but.trans b5
        have t45 : TSm K H4 H5 := b45.tsm eo rfl
        have sm5 : Same H H5 := fun b ob e => b45 _ _ (hn b ob e) (sm _ _ e)
        have eD5 := b45 _ _ hoD eD
        -- require(row_fits(..))
        obtain ⟨rok, rp3⟩ := hx.rok row hrm
        refine ⟨_, rfl, _, rfl, _, rfl, x, row, Dn, fn.names, c, kvs, cnt, rfl, tr.mono sm5.tsm, rok, rp3, .of eD5, sm5 _ _ hC, hcnt, hfit row hrm, fun H6 s6 => ?_⟩
        refine ⟨_, rfl, _, rfl, len2_line, fun c3 nc3 => ?_⟩
        have s7 : Same H6 (upd H6 c3 (.tup [.int k, .int (i : Nat)])) := same_upd nc3
        refine ⟨_, _, rfl, ?_⟩
        have s57 := s6.trans s7
        exact ⟨sm5.trans s57, s57 _ _ eD5, ⟨zs5, s57 _ _ e5, h5.mono s57.tsm⟩, _, _, _, rfl⟩
      · obtain ⟨sm, eD, ⟨zs, eo, hz⟩, y5, y6, y7, rfl⟩ := p4
        rw [hl5, st1] at hz
        obtain rfl := hz.nil_inv
        refine ⟨_, rfl, Nat.zero_le _, fun c2 nc2 => ?_⟩
        have s2 : Same H4 (upd H4 c2 (.lst [])) := same_upd nc2
        refine ⟨.list [], .list [], .lst (.of (s2 _ _ eo)) .nil, .lst (.of upd_same) .nil, shaped_nilL, shaped_nilL, _, rfl, ?_⟩
        exact iteF1 (b := !PyData.eqv (.list []) (.list [])) (by rw [eqvL_nil]; rfl) (q _ (sm.trans s2))
end
end B9

/-! The checker of programs. -/
namespace B9
open PySem PySem.Spec PyProof.Rows L2

/-! ### a comprehension with two fors whose items are known ahead -/
def PvO (S : Hp) (D : Addr) (yss : List (List V)) (i : Nat) (H : Hp) : Prop := Same S H ∧ H D = some (.lst (yss.take i).flatten)
def PvI (S : Hp) (D : Addr) (yss : List (List V)) (i j : Nat) (H : Hp) : Prop := Same S H ∧ H D = some (.lst ((yss.take i).flatten ++ ((yss[i]?).getD []).take j))
section
variable {S : Hp} {D : Addr} {yss : List (List V)} {ys : List V} {i j : Nat} {H H' : Hp} {v : V}
theorem PvO.zero (n : S D = none) : PvO S D yss 0 (upd S D (.lst [])) := ⟨same_upd n, by rw [upd_same, List.take_zero]; rfl⟩
theorem PvO.inner (p : PvO S D yss i H) (s : Same H H') : PvI S D yss i 0 H' := ⟨p.1.trans s, by rw [List.take_zero, List.append_nil]; exact s _ _ p.2⟩
theorem flat_take_len (yss : List (List V)) (i : Nat) : ((yss.take i).flatten ++ (yss[i]?).getD []).length ≤ yss.flatten.length := by
  have e : ((yss.take i).flatten ++ (yss[i]?).getD []) = (yss.take (i + 1)).flatten := by
    rw [List.take_add_one, List.flatten_append]
    cases yss[i]? <;> simp
  rw [e]
  have e2 := congrArg (fun l => (List.flatten l).length) (List.take_append_drop (i + 1) yss)
  simp only [List.flatten_append, List.length_append] at e2
  omega
theorem PvI.step (n : S D = none) (hz : yss.flatten.length < 1000000) (p : PvI S D yss i j H) (s : Same H H') (ey : yss[i]? = some ys) (e : ys[j]? = some v) :
    ∃ acc, H' D = some (.lst acc) ∧ acc.length < sizeLine ∧ PvI S D yss i (j + 1) (upd H' D (.lst (acc ++ [v]))) := by
  refine ⟨_, s _ _ p.2, ?_, same_at n (p.1.trans s), ?_⟩
  · have h1 := flat_take_len yss i
    rw [List.length_append] at h1
    rw [List.length_append, List.length_take]
    exact Nat.lt_of_le_of_lt (by omega : _ ≤ yss.flatten.length) (Nat.lt_trans hz big6)
  · rw [upd_same, ey]
    rw [show (some ys).getD [] = ys from rfl, List.take_add_one, e]
    simp
theorem PvI.done (p : PvI S D yss i j H) (ey : yss[i]? = some ys) (hj : j = ys.length) : PvO S D yss (i + 1) H := by
  refine ⟨p.1, ?_⟩
  rw [p.2, ey, List.take_add_one, ey, List.flatten_append]
  rw [show (some ys).getD [] = ys from rfl, hj, List.take_length]
  simp
theorem PvO.done (p : PvO S D yss i H) (hi : i = yss.length) : H D = some (.lst yss.flatten) := by
  have h := p.2
  rw [hi, List.take_length] at h
  exact h
end

/-! ### name = {..} by a comprehension, on one line, the name a local -/
section
variable {X : Cx}
theorem ps_setDc {i : Nat} {y : Str} {py : Pos} {kx vx tg iter : Expr} {ifs : List Expr} {scope : Scope} {own : List (Str × Nat)} {pos spos : Pos} {wi : TI} {g : TG} {tt : TT} {tk tv : TE} (hc : X.calm = true) (hN : X.N.Nodup) (hy : X.N[i]? = some y) (hyl : X.env.scope.names.lookup y = some .local)
    (hsw : swapsWith (.DictComp kx vx [⟨tg, iter, ifs, 0⟩] scope pos) (some (.Name y py)) spos.line X.env = pure true) (hi : PI X tg iter wi) (ok : L2.BlkOk X.N X.env.scope scope own)
    (hg : ∀ (s : Shared) (H : Hp) (C : Addr) (cl : List (Str × Addr)) (fp : List Addr), PG (X.blk s H scope (compEnvC scope cl C X.env) fp) tg g) (ht : ∀ (s : Shared) (H : Hp) (C : Addr) (cl : List (Str × Addr)) (fp : List Addr), PTs (X.blk s H scope (compEnvC scope cl C X.env) fp) ifs tt)
    (hk : ∀ (s : Shared) (H : Hp) (C : Addr) (cl : List (Str × Addr)) (fp : List Addr), PE (X.blk s H scope (compEnvC scope cl C X.env) fp) kx tk)
    (he : ∀ (s : Shared) (H : Hp) (C : Addr) (cl : List (Str × Addr)) (fp : List Addr), PE (X.blk s H scope (compEnvC scope cl C X.env) fp) vx tv) (hs : ∀ x, foldedSetIterable iter X.env x = pure x := by intro _; rfl) :
    PS X (.Assign [.Name y py] (.DictComp kx vx [⟨tg, iter, ifs, 0⟩] scope pos) spos) (tAsg (tDc wi g tt tk tv (own.map (·.2))) (gName i)) := by
  refine ⟨fun pins s σ H D I h => ?_⟩
  rw [exec_Assign_Name_used _ _ _ _ hsw]
  refine wpAny_bind (wpAny_standAt (wpAny_bind ?_))
  show wpAny _ X.A (do let _ ← comprehension (.DictComp kx vx [⟨tg, iter, ifs, 0⟩] scope pos) scope X.env (firstIterPos [⟨tg, iter, ifs, 0⟩] pos) newDict false (eval iter X.env) (some (assign (.Name y py) X.env))) _ _ s
  have h : tDc wi g tt tk tv (own.map (·.2)) σ H (fun x H1 => gName i x σ H1 D.nx) := h
  refine wpAny_bind (thn (dc_core (Qf := fun _ s' => SP X pins D .next s') hc hN I hi ok hg ht hk he hs h fun L C s' m H' I' q hn f => ?_) fun _ s' hq => wpAny_pure (wpAny_pure hq))
  show wpAny _ _ (assign (.Name y py) X.env (.ref L)) _ _ _
  refine wpAny_assign_Name (store_ok2 (v := V.ref L) I' hN hy (.inl hyl) rfl (fun s2 I2 ⟨a, sb, ha⟩ => ?_) (.inr hyl))
  obtain ⟨f0, f1, f2, f3, f4, f5⟩ := f
  have haC : C ≠ a := by
    rcases ha with z | z
    · rw [z]; exact f1
    · exact fun e => f4 y a z e.symm
  refine ⟨m, hn.sameBut sb haC, fun h3 sb3 => ?_⟩
  exact ⟨_, H', I2.turned (t' := s2.toks) (fun b o hb e => (sb3.2 b hb).trans e) f0 f1 f3 f4 f5, q⟩
theorem sw_trueD {kx vx : Expr} {gs : List Comprehension} {scope : Scope} {pos py : Pos} {y : Str} {l : Nat} {env : Env} (hk : env.scope.kind = .function) (hy : env.scope.names.lookup y = some .local) (hl : (py.line == pos.line) = true)
    (ha : (scope.names.any fun (n, k) => n == y && (k == .local || k == .cell)) = false) : swapsWith (.DictComp kx vx gs scope pos) (some (.Name y py)) l env = pure true := by
  have ky : env.kindOf y = some .local := hy
  have hb : env.blockKind = .function := by unfold Env.blockKind; rw [hk]; rfl
  unfold swapsWith
  simp only [hb, ky, ha, Expr.pos, hl]
  rfl
end

/-! ### what a program must be -/
def Pg.rows (p : Pg) : List Rw := p.fns.flatMap (·.rows)
def Pg.cnt (p : Pg) (g : Str) : Option Nat := (p.fns.find? fun f => decide (f.nm = g)).map (·.many)
def Pg.cnts (p : Pg) : List Int := p.rows.map fun r => (r.parts.length : Int)
def Pg.count (p : Pg) : Int := p.cnts.sum
structure PgW (p : Pg) : Prop where
  ne : p.fns ≠ []
  len : p.fns.length ≤ 3
  fok : ∀ f ∈ p.fns, FnW f
  asc : p.fns.Pairwise fun f g => f.nm.cps.toList < g.nm.cps.toList
  fok1 : okNm p.first = true
  fin : p.first ∈ p.fns.map (·.nm)
  most : 1 ≤ p.most
  fit : ∀ f ∈ p.fns, ∀ r ∈ f.rows, rowFits f.names p.cnt r = true
  blk : ∀ f ∈ p.fns, RowsOk f.rows
  rlen : p.rows.length ≤ 9000
theorem PgW.nd {p : Pg} (h : PgW p) : (p.fns.map (·.nm)).Nodup := by
  unfold List.Nodup
  rw [List.pairwise_map]
  refine h.asc.imp fun {f g} l e => ?_
  rw [e] at l
  exact absurd l (List.lt_irrefl _)
theorem PgW.lay {p : Pg} (h : PgW p) : p.d.canLay0 = true := layT fun d hd => by
  simp only [List.mem_cons, List.not_mem_nil, or_false] at hd
  rcases hd with rfl | rfl | rfl
  · refine layT fun d hd => ?_
    obtain ⟨f, hf, rfl⟩ := List.mem_map.mp hd
    exact (h.fok f hf).lay
  · exact lay_str h.fok1
  · simp only [PyData.canLay0]
def pairsOf (fs : List Fnc) : List (Key × V) := fs.map fun f => (Sum.inr f.nm, V.int f.many)
theorem pairs_val (fs : List Fnc) (g : Str) : valV (pairsOf fs) (.inr g) = ((fs.find? fun f => decide (f.nm = g)).map (·.many)).map fun n : Nat => V.int n := by
  induction fs with
  | nil => rfl
  | cons f fs ih =>
    unfold pairsOf at ih ⊢
    rw [List.map_cons, List.find?_cons]
    by_cases e : f.nm = g
    · rw [valV_pos (by show Sum.inr f.nm = Sum.inr g; rw [e]), decide_eq_true e]
      rfl
    · rw [valV_neg (by show ¬ Sum.inr f.nm = Sum.inr g; exact fun z => e (Sum.inr.inj z)), decide_eq_false e, ih]
theorem putK_new {kvs : List (Key × V)} {k : Key} {v : V} (h : valV kvs k = none) : putK kvs k v = kvs ++ [(k, v)] := by
  unfold putK
  rw [valV_any, h]
  rfl
theorem Pg.inv {K : PySem.W.Frag} {H : Hp} {v : V} {p : Pg} (h : Tp K H v p.d) : ∃ a v0, v = .ref a ∧ SqT K H a [v0, .str p.first, .int p.most] ∧ Tp K H v0 (.tuple (p.fns.map Fnc.d)) := by
  obtain ⟨a, xs, rfl, hS, hA⟩ := Tp.tup_inv h
  obtain ⟨v0, xs, rfl, t0, hA⟩ := hA.cons_inv
  obtain ⟨v1, xs, rfl, t1, hA⟩ := hA.cons_inv
  obtain ⟨v2, xs, rfl, t2, hA⟩ := hA.cons_inv
  obtain rfl := hA.nil_inv
  obtain rfl := t1.str_inv
  obtain rfl := t2.int_inv
  exact ⟨a, v0, rfl, hS, t0⟩

section
variable {P : Program} {w : World} {K : PySem.W.Frag} {mg : Str → Option Value} {base : Heap}
def spLP (K : PySem.W.Frag) : Sp := fun vs H Q _ => ∃ (v : V) (p : Pg), vs = [v] ∧ Tp K H v p.d ∧ PgW p ∧ ∀ H', Same H H' → Q (.int p.count) H'
theorem h_lets_program (D : Dfs w K mg) : Has P w K mg base 31 "lets_program" (spLP K) := by
  refine D.f_lets_program.has sc_lets_program (fun vs H Q E h => ?_) (fun f cdv A outer s H vs Q E hr h => ?_)
  · obtain ⟨v, p, rfl, _⟩ := h
    rfl
  · obtain ⟨v, p, rfl, hd, hp, q⟩ := h
    obtain ⟨fF, gF, _⟩ := h_are_function_shapes (P := P) (base := base) D
    obtain ⟨fN, gN, _⟩ := h_is_name (P := P) (base := base) D
    obtain ⟨fI, gI, _⟩ := h_is_integer (P := P) (base := base) D
    refine ⟨_, (pss_cons (ps_expr (pc (h_require D) hr (pa_cons (pc (h_is_tuple_with D 29) hr (pa_cons (pv 0) (pa_cons (pe_tup (pa_cons (pe_glob (v := .ref fF) (by rfl) gF rfl) (pa_cons (pe_glob (v := .ref fN) (by rfl) gN rfl) (pa_cons (pe_glob (v := .ref fI) (by rfl) gI rfl) pa_nil)))) pa_nil))) (pa_cons pe_str (pa_cons (pe_un un_neg pe_int) pa_nil)))))
      (pss_cons (ps_asg (pv 0) (pg_tup rfl (pgs_cons (pg_name (i := 1) sc_lets_program.nd rfl (.inl rfl)) (pgs_cons (pg_name (i := 2) sc_lets_program.nd rfl (.inl rfl)) (pgs_cons (pg_name (i := 3) sc_lets_program.nd rfl (.inl rfl)) pgs_nil)))))
      (pss_cons (ps_expr (pc (h_require D) hr (pa_cons (pe_cmpR op_ge (pv 3) pe_int (nomark _)) (pa_cons pe_str (pa_cons (pe_un un_neg pe_int) pa_nil)))))
      (pss_cons (ps_expr (pc (h_require D) hr (pa_cons (pe_cmpR (op_neD hr.units) (pv 1) (pe_tup pa_nil) (nomark _)) (pa_cons pe_str (pa_cons (pe_un un_neg pe_int) pa_nil)))))
      (pss_cons (ps_for PassesOwn.never rfl (pi_enumT (by rfl) D.b_enumerate (pa_cons (pv 1) pa_nil)) (pg_tup rfl (pgs_cons (pg_name (i := 4) sc_lets_program.nd rfl (.inl rfl)) (pgs_cons (pg_name (i := 5) sc_lets_program.nd rfl (.inl rfl)) pgs_nil))) (pss_cons (ps_expr (pc (h_require D) hr (pa_cons (pe_or (pe_cmpR op_eq (pv 4) pe_int (nomark _)) (pe_one (pe_cmpR op_lt_str (pe_ix ix_tup (pe_ix ix_tup (pv 1) (pe_op op_sub (pv 4) pe_int) (fun _ _ => rfl)) pe_int (fun _ _ => rfl)) (pe_ix ix_tup (pv 5) pe_int (fun _ _ => rfl)) (nomark _)))) (pa_cons pe_str (pa_cons (pv 4) pa_nil)))))
      (pss_one (ps_expr (pc (h_check_variables D) hr (pa_cons (pv 4) (pa_cons (pv 5) pa_nil)))))))
      (pss_cons (ps_setDc (i := 6) (own := [("function", 5)]) (tk := tOp (rIxT K) (tVar 5) (tC (.int 0))) (tv := tOp (rIxT K) (tVar 5) (tC (.int 4))) (by rfl) sc_lets_program.nd rfl rfl (sw_trueD rfl rfl rfl (by decide +kernel)) (pi_tup (pv 1)) (blkOk_by (own := [("function", 5)]) (N := N_lets_program) (sc := defScope s_lets_program) (by decide +kernel)) (fun _ _ _ _ _ => (pg_name (i := 5) sc_lets_program.nd rfl (Or.inl rfl))) (fun _ _ _ _ _ => pts_nil) (fun _ _ _ _ _ => (pe_ix ix_tup (pv 5) pe_int (fun _ _ => rfl))) (fun _ _ _ _ _ => (pe_ix ix_tup (pv 5) pe_int (fun _ _ => rfl))))
      (pss_cons (ps_expr (pc (h_require D) hr (pa_cons (pe_cmp (pc_din (hu_of hr) (pv 2) (pv 6)) rfl) (pa_cons pe_str (pa_cons (pe_un un_neg pe_int) pa_nil)))))
      (pss_cons (ps_for PassesOwn.never rfl (pi_enumT (by rfl) D.b_enumerate (pa_cons (pv 1) pa_nil)) (pg_tup rfl (pgs_cons (pg_name (i := 4) sc_lets_program.nd rfl (.inl rfl)) (pgs_cons (pg_name (i := 5) sc_lets_program.nd rfl (.inl rfl)) pgs_nil))) (pss_one (ps_expr (pc (h_check_rows D) hr (pa_cons (pv 4) (pa_cons (pv 5) (pa_cons (pv 6) pa_nil)))))))
      (pss_one (ps_ret (pe_callB (cr_sum rfl) (by rfl) D.b_sum (by decide +kernel) (pa_cons (pe_lc2 (vs1 := [7]) (own := [("function", 5), ("row", 7)]) (wi1 := iTup K (tOp (rIxT K) (tVar 5) (tC (.int 5)))) (te := tPc (spPR K) (tCons (tVar 7) tNil)) (by rfl) sc_lets_program.nd (pi_tup (pv 1)) (blkOk_by (own := [("function", 5), ("row", 7)]) (N := N_lets_program) (sc := defScope s_lets_program) (by decide +kernel)) (by decide) (fun _ _ _ _ _ => (pg_name (i := 5) sc_lets_program.nd rfl (Or.inl rfl))) (fun _ _ _ _ _ => pts_nil) (fun _ _ _ _ _ => (pi_tup (pe_ix ix_tup (pv 5) pe_int (fun _ _ => rfl)))) (fun _ _ _ _ _ => (pg_name (i := 7) sc_lets_program.nd rfl (Or.inl rfl))) (fun _ _ _ _ _ => pts_nil) (fun _ _ _ _ _ => (pc (h_places_in_row D) hr (pa_cons (pv 7) pa_nil)))) pa_nil)))))))))))), ?_⟩
    obtain ⟨a, v0, rfl, hS, t0⟩ := Pg.inv hd
    obtain ⟨a0, xs0, rfl, hS0, hA0⟩ := t0.tup_inv
    have hl0 : xs0.length = p.fns.length := hA0.map_len
    have hl3 := hp.len
    -- require(is_tuple_with(..))
    refine ⟨_, rfl, len3_line, fun c nc => ?_⟩
    have s1 : Same H (upd H c (.tup [.ref fF, .ref fN, .ref fI])) := same_upd nc
    refine ⟨a, c, _, _, rfl, s1.tsm _ _ hS, .of upd_same, rfl, (by show 3 ≤ 1000; decide), fun i y cc hy hc => ?_, fun H2 s2 => ?_⟩
    · match i with
      | 0 => cases hy; cases hc; exact chkOf (h_are_function_shapes D) (Nat.le_refl _) gF fun H1 Q1 s2 q1 => ⟨_, p.fns, rfl, t0.mono (s1.trans s2).tsm, by omega, hp.fok, q1⟩
      | 1 => cases hy; cases hc; exact chkName D (by decide) gN hp.fok1
      | 2 => cases hy; cases hc; exact chkInt D (by decide) gI
      | i + 3 => simp at hy
    have sH2 : Same H H2 := s1.trans s2
    clear s1 s2 nc c
    refine ⟨_, rfl, _, _, rfl, ?_⟩
    -- functions, first, most = thing
    refine ⟨_, rfl, a, _, rfl, sH2.tsm _ _ hS, rfl, _, _, rfl, _, _, rfl, _, _, rfl, rfl, ?_⟩
    -- require(most >= 1, ..)
    refine ⟨_, rfl, _, _, rfl, rfl, _, rfl, _, _, req1 (decide_eq_true hp.most), ?_⟩
    -- require(functions != (), ..)
    refine ⟨_, rfl, Nat.zero_le _, fun c nc => ?_⟩
    have s3 : Same H2 (upd H2 c (.tup [])) := same_upd nc
    generalize hH3 : upd H2 c (.tup []) = H3 at s3
    have sH3 : Same H H3 := sH2.trans s3
    have eNe : (!PyData.eqv (.tuple (p.fns.map Fnc.d)) (.tuple [])) = true := by
      cases hf : p.fns with
      | nil => exact absurd hf hp.ne
      | cons g gs =>
        rw [List.map_cons, eqv_nil]
        rfl
    have hsh : SeqAt.shaped (.tuple (p.fns.map Fnc.d)) = true := by
      refine shaped_of (layT fun d hd => ?_) (Nat.le_trans (depT (n := maxD + 4) fun d hd => ?_) (by decide))
      · obtain ⟨g, hg, rfl⟩ := List.mem_map.mp hd
        exact (hp.fok g hg).lay
      · obtain ⟨g, hg, rfl⟩ := List.mem_map.mp hd
        exact (hp.fok g hg).dep
    refine ⟨_, .tuple [], (t0.mono sH3.tsm).dp, .tup (.of (by rw [← hH3]; exact upd_same)) .nil, hsh, shaped_nil, _, rfl, _, _, req1 eNe, ?_⟩
    -- the first loop
    refine ⟨_, rfl, a0, xs0, rfl, sH3.tsm _ _ hS0, ?_⟩
    refine for_enumT (K := K) (a := a0) (xs := xs0) (fun i σ H' => Same H H' ∧ ∃ y4 y5, σ = [some (.ref a), some (.ref a0), some (.str p.first), some (.int p.most), y4, y5, none, none])
      ⟨sH3, none, none, rfl⟩ (fun i σ H' _ pp => pp.1.tsm _ _ hS0) (fun i x T σ H4 hx4 p4 nT => ?_) (fun σ H4 p4 => ?_)
    · obtain ⟨sm, y4, y5, rfl⟩ := p4
      obtain ⟨fn, hfi, hfm, tf⟩ := hA0.map_get hx4
      have sT : Same H4 (upd H4 T (.tup [.int (i : Nat), x])) := same_upd nT
      refine ⟨T, _, rfl, .of upd_same, rfl, _, _, rfl, _, _, rfl, rfl, ?_⟩
      generalize hG : upd H4 T (.tup [.int (i : Nat), x]) = G at sT
      have sG := sm.trans sT
      refine ⟨_, rfl, rfl, _, rfl, ?_⟩
      obtain ⟨y, v3, v5, rfl, hSx, _, _⟩ := Fnc.inv tf
      have hSG := sG.tsm _ _ hSx
      refine (fun tail => ite2 (fun hc => tail) (fun hc => ?_)) ?_
      · have hi0 : i ≠ 0 := fun z => hc (by rw [z]; rfl)
        obtain ⟨j, rfl⟩ := Nat.exists_eq_succ_of_ne_zero hi0
        have hjl : j + 1 < p.fns.length := (List.getElem?_eq_some_iff.mp hfi).1
        obtain ⟨x', hx', tx'⟩ := hA0.at (i := j) (d := (p.fns[j]'(by omega)).d) (by rw [List.getElem?_map, List.getElem?_eq_getElem (by omega)]; rfl)
        obtain ⟨y', v3', v5', rfl, hSx', _, _⟩ := Fnc.inv tx'
        have hlt : (p.fns[j]'(by omega)).nm.cps.toList < fn.nm.cps.toList := by
          have h1 := List.pairwise_iff_getElem.mp hp.asc j (j + 1) (by omega) hjl (by omega)
          rw [List.getElem?_eq_getElem hjl] at hfi
          cases hfi
          exact h1
        have ej : ((j + 1 : Nat) : Int) - 1 = (j : Nat) := by omega
        have hat : atI xs0 (((j + 1 : Nat) : Int) - 1) = some (.ref y') := by
          rw [ej]
          exact atI_nat hx'
        refine ⟨_, rfl, _, rfl, _, _, rfl, rfl, a0, xs0, _, _, rfl, rfl, sG.tsm _ _ hS0, hat, ?_⟩
        refine ⟨y', _, 0, _, rfl, rfl, sG.tsm _ _ hSx', at0, _, rfl, y, _, 0, _, rfl, rfl, hSG, at0, _, _, rfl, rfl, ?_⟩
        rw [decide_eq_true hlt]
        exact tail
      · refine ⟨_, rfl, _, _, rfl, ?_⟩
        refine ⟨_, rfl, _, rfl, _, _, fn, rfl, tf.mono sG.tsm, hp.fok fn hfm, fun H5 s5 => ⟨sG.trans s5, _, _, rfl⟩⟩
    · obtain ⟨sm, y4, y5, rfl⟩ := p4
      -- counts
      refine ⟨_, rfl, a0, rfl, ⟨_, sm.tsm _ _ hS0⟩, fun Dn nD => ?_⟩
      refine dc_tup (K := K) (a := a0) (xs := xs0) (fun i H' => Same H4 H' ∧ H' Dn = some (.dK (pairsOf (p.fns.take i)))) ⟨same_upd nD, upd_same⟩ (fun i H' _ pp => (sm.trans pp.1).tsm _ _ hS0) (fun i x H5 hx5 pp => ?_) (fun H5 pp => ?_)
      · obtain ⟨s5, e5⟩ := pp
        obtain ⟨fn, hfi, hfm, tf⟩ := hA0.map_get hx5
        obtain ⟨y, v3, v5, rfl, hSx, _, _⟩ := Fnc.inv tf
        have hSG := (sm.trans s5).tsm _ _ hSx
        have hil := (List.getElem?_eq_some_iff.mp hfi).1
        refine ⟨rfl, _, rfl, y, _, 0, _, rfl, rfl, hSG, at0, _, rfl, y, _, 4, _, rfl, rfl, hSG, at4, _, .inr fn.nm, rfl, e5, ?_, same_at nD s5, ?_⟩
        · unfold pairsOf
          rw [List.length_map, List.length_take]
          exact small1000 (by omega)
        · rw [upd_same, putK_new, List.take_add_one, hfi]
          · unfold pairsOf
            rw [List.map_append]
            rfl
          · rw [pairs_val]
            have hnone : (p.fns.take i).find? (fun f => decide (f.nm = fn.nm)) = none := by
              rw [List.find?_eq_none]
              intro g hg e
              obtain ⟨j, hj, ej⟩ := List.getElem_of_mem hg
              rw [List.length_take] at hj
              rw [List.getElem_take] at ej
              have h1 := List.pairwise_iff_getElem.mp hp.asc j i (by omega) hil (by omega)
              rw [List.getElem?_eq_getElem hil] at hfi
              cases hfi
              rw [ej, of_decide_eq_true e] at h1
              exact List.lt_irrefl _ h1
            rw [hnone]
            rfl
      · obtain ⟨s5, e5⟩ := pp
        have sH5 := sm.trans s5
        rw [hl0, List.take_length] at e5
        have hC : Cnts (pairsOf p.fns) p.cnt := fun g => pairs_val p.fns g
        have hin : (valV (pairsOf p.fns) (.inr p.first)).isSome = true := by
          obtain ⟨g, hg, eg⟩ := List.mem_map.mp hp.fin
          rw [pairs_val]
          have : (p.fns.find? fun f => decide (f.nm = p.first)).isSome = true := by
            rw [List.find?_isSome]
            exact ⟨g, hg, decide_eq_true eg⟩
          rw [Option.isSome_map, Option.isSome_map]
          exact this
        -- require(first in counts, ..)
        refine ⟨_, rfl, _, rfl, Dn, _, rfl, DGet.k (k := Sum.inr p.first) e5, _, rfl, _, _, req1 hin, ?_⟩
        -- the second loop
        refine ⟨_, rfl, a0, xs0, rfl, sH5.tsm _ _ hS0, ?_⟩
        refine for_enumT (K := K) (a := a0) (xs := xs0) (fun i σ H' => Same H5 H' ∧ ∃ y4 y5, σ = [some (.ref a), some (.ref a0), some (.str p.first), some (.int p.most), y4, y5, some (.ref Dn), none])
          ⟨Same.refl _, _, _, rfl⟩ (fun i σ H' _ pp => (sH5.trans pp.1).tsm _ _ hS0) (fun i x T σ H6 hx6 p6 nT => ?_) (fun σ H6 p6 => ?_)
        · obtain ⟨s6, y4, y5, rfl⟩ := p6
          obtain ⟨fn, hfi, hfm, tf⟩ := hA0.map_get hx6
          have sT : Same H6 (upd H6 T (.tup [.int (i : Nat), x])) := same_upd nT
          refine ⟨T, _, rfl, .of upd_same, rfl, _, _, rfl, _, _, rfl, rfl, ?_⟩
          generalize hG : upd H6 T (.tup [.int (i : Nat), x]) = G at sT
          have s5G := s6.trans sT
          refine ⟨_, rfl, _, rfl, _, rfl, _, _, fn, Dn, _, _, rfl, tf.mono (sH5.trans s5G).tsm, hp.fok fn hfm, s5G _ _ e5, hC, hp.fit fn hfm, hp.blk fn hfm, fun H7 s7 => ⟨s5G.trans s7, _, _, rfl⟩⟩
        · obtain ⟨s6, y4, y5, rfl⟩ := p6
          have sH6 := sH5.trans s6
          -- the sum
          refine ⟨_, rfl, a0, rfl, ⟨_, sH6.tsm _ _ hS0⟩, fun Dl nL => ?_⟩
          generalize hyss : (p.fns.map fun f : Fnc => f.rows.map fun r => V.int (r.parts.length : Nat)) = yss
          have hflat : yss.flatten = p.cnts.map V.int := by
            rw [← hyss]
            unfold Pg.cnts Pg.rows
            rw [List.map_flatMap, List.map_flatMap, List.flatMap]
            simp only [List.map_map]
            rfl
          have hz : yss.flatten.length < 1000000 := by
            rw [hflat, List.length_map]
            unfold Pg.cnts
            rw [List.length_map]
            have := hp.rlen
            omega
          refine walkT (K := K) (a := a0) (xs := xs0) (PvO H6 Dl yss) (PvO.zero nL) (fun i H' _ pp => (sH6.trans pp.1).tsm _ _ hS0) (fun i x H7 hx7 p7 => ?_) (fun H7 p7 => ?_)
          · obtain ⟨fn, hfi, hfm, tf⟩ := hA0.map_get hx7
            obtain ⟨y, v3, v5, rfl, hSx, _, t5⟩ := Fnc.inv tf
            obtain ⟨a5, xs5, rfl, hS5, hA5⟩ := t5.tup_inv
            have sG := sH6.trans p7.1
            have ey : yss[i]? = some (fn.rows.map fun r => V.int (r.parts.length : Nat)) := by rw [← hyss, List.getElem?_map, hfi]; rfl
            refine ⟨rfl, _, rfl, y, _, 5, _, rfl, rfl, sG.tsm _ _ hSx, at5, a5, rfl, ⟨_, sG.tsm _ _ hS5⟩, ?_⟩
            refine walkT (K := K) (a := a5) (xs := xs5) (PvI H6 Dl yss i) (p7.inner (Same.refl _)) (fun j H' _ pp => (sH6.trans pp.1).tsm _ _ hS5) (fun j z H8 hx8 p8 => ?_) (fun H8 p8 => ?_)
            · obtain ⟨row, hri, hrm, tr⟩ := hA5.map_get hx8
              refine ⟨rfl, _, rfl, z, row, rfl, tr.mono (sH6.trans p8.1).tsm, fun H9 s9 => ?_⟩
              exact PvI.step nL hz p8 s9 ey (by rw [List.getElem?_map, hri]; rfl)
            · exact p8.done ey (by rw [hA5.map_len, List.length_map])
          · refine ⟨Dl, p.cnts, rfl, .of ?_, q _ (sH6.trans p7.1)⟩
            rw [← hflat]
            exact p7.done (by rw [hl0, ← hyss, List.length_map])
end
end B9

/-! Places: where they stand, who reads them. -/
namespace B9
open PySem PySem.Spec PyProof.Rows L2

/-! ### a comprehension's list that stands for data -/
def PvT (K : PySem.W.Frag) (F : Hp → Prop) (D : Addr) (ds : List PyData) (i : Nat) (H : Hp) : Prop := F H ∧ ∃ ys, H D = some (.lst ys) ∧ TpAll K H ys (ds.take i)
section
variable {K : PySem.W.Frag} {F : Hp → Prop} {S : Hp} {D : Addr} {ds : List PyData} {d : PyData} {i : Nat} {H H' : Hp} {v : V}
theorem PvT.zero (h : F (upd S D (.lst []))) : PvT K F D ds 0 (upd S D (.lst [])) := ⟨h, [], upd_same, by rw [List.take_zero]; exact .nil⟩
theorem PvT.step (p : PvT K F D ds i H) (hi : i < 1000000) (t : TSm K H H') (hD : ∀ ys, H D = some (.lst ys) → H' D = some (.lst ys)) (hF : ∀ zs, F (upd H' D (.lst zs))) (e : ds[i]? = some d) (tv : Tp K H' v d) :
    ∃ acc, H' D = some (.lst acc) ∧ acc.length < sizeLine ∧ PvT K F D ds (i + 1) (upd H' D (.lst (acc ++ [v]))) := by
  obtain ⟨f, ys, ey, hy⟩ := p
  have t2 : TSm K H' (upd H' D (.lst (ys ++ [v]))) := tsm_upd (hD _ ey) rfl
  refine ⟨ys, hD _ ey, ?_, hF _, ys ++ [v], upd_same, ?_⟩
  · rw [hy.length, List.length_take]
    exact Nat.lt_of_le_of_lt (Nat.min_le_left _ _) (Nat.lt_trans hi big6)
  · rw [List.take_add_one, e]
    exact (hy.mono (t.trans t2)).append (.cons (tv.mono t2) .nil)
theorem PvT.done {n : Nat} (p : PvT K F D ds n H) (hn : n = ds.length) : ∃ ys, H D = some (.lst ys) ∧ TpAll K H ys ds := by
  obtain ⟨_, ys, ey, hy⟩ := p
  rw [hn, List.take_length] at hy
  exact ⟨ys, ey, hy⟩
/-- the plain frame -/
abbrev PvS (K : PySem.W.Frag) (S : Hp) := PvT K (Same S)
theorem PvS.zero (n : S D = none) : PvS K S D ds 0 (upd S D (.lst [])) := PvT.zero (same_upd n)
theorem PvS.step (n : S D = none) (p : PvS K S D ds i H) (hi : i < 1000000) (s : Same H H') (e : ds[i]? = some d) (tv : Tp K H' v d) :
    ∃ acc, H' D = some (.lst acc) ∧ acc.length < sizeLine ∧ PvS K S D ds (i + 1) (upd H' D (.lst (acc ++ [v]))) :=
  PvT.step p hi s.tsm (fun ys e => s _ _ e) (fun zs => same_at n (p.1.trans s)) e tv
end
/-- with two fors -/
def PwO (K : PySem.W.Frag) (S : Hp) (D : Addr) (dss : List (List PyData)) (i : Nat) (H : Hp) : Prop := Same S H ∧ ∃ ys, H D = some (.lst ys) ∧ TpAll K H ys (dss.take i).flatten
def PwI (K : PySem.W.Frag) (S : Hp) (D : Addr) (dss : List (List PyData)) (i j : Nat) (H : Hp) : Prop := Same S H ∧ ∃ ys, H D = some (.lst ys) ∧ TpAll K H ys ((dss.take i).flatten ++ ((dss[i]?).getD []).take j)
section
variable {K : PySem.W.Frag} {S : Hp} {D : Addr} {dss : List (List PyData)} {ds : List PyData} {d : PyData} {i j : Nat} {H H' : Hp} {v : V}
theorem PwO.zero (n : S D = none) : PwO K S D dss 0 (upd S D (.lst [])) := ⟨same_upd n, [], upd_same, by rw [List.take_zero]; exact .nil⟩
theorem PwO.inner (p : PwO K S D dss i H) (s : Same H H') : PwI K S D dss i 0 H' := by
  obtain ⟨f, ys, ey, hy⟩ := p
  exact ⟨f.trans s, ys, s _ _ ey, by rw [List.take_zero, List.append_nil]; exact hy.mono s.tsm⟩
theorem flat_take_lenD (yss : List (List PyData)) (i : Nat) : ((yss.take i).flatten ++ (yss[i]?).getD []).length ≤ yss.flatten.length := by
  have e : ((yss.take i).flatten ++ (yss[i]?).getD []) = (yss.take (i + 1)).flatten := by
    rw [List.take_add_one, List.flatten_append]
    cases yss[i]? <;> simp
  rw [e]
  have e2 := congrArg (fun l => (List.flatten l).length) (List.take_append_drop (i + 1) yss)
  simp only [List.flatten_append, List.length_append] at e2
  omega
theorem PwI.step (n : S D = none) (hz : dss.flatten.length < 1000000) (p : PwI K S D dss i j H) (s : Same H H') (ed : dss[i]? = some ds) (e : ds[j]? = some d) (tv : Tp K H' v d) :
    ∃ acc, H' D = some (.lst acc) ∧ acc.length < sizeLine ∧ PwI K S D dss i (j + 1) (upd H' D (.lst (acc ++ [v]))) := by
  obtain ⟨f, ys, ey, hy⟩ := p
  have t2 : TSm K H' (upd H' D (.lst (ys ++ [v]))) := tsm_upd (s _ _ ey) rfl
  refine ⟨ys, s _ _ ey, ?_, same_at n (f.trans s), ys ++ [v], upd_same, ?_⟩
  · rw [hy.length]
    have h1 := flat_take_lenD dss i
    rw [List.length_append] at h1
    rw [List.length_append, List.length_take]
    exact Nat.lt_of_le_of_lt (by omega : _ ≤ dss.flatten.length) (Nat.lt_trans hz big6)
  · rw [ed] at hy ⊢
    rw [show (some ds).getD [] = ds from rfl] at hy ⊢
    rw [List.take_add_one, e, ← List.append_assoc]
    exact (hy.mono (s.tsm.trans t2)).append (.cons (tv.mono t2) .nil)
theorem PwI.done (p : PwI K S D dss i j H) (ed : dss[i]? = some ds) (hj : j = ds.length) : PwO K S D dss (i + 1) H := by
  obtain ⟨f, ys, ey, hy⟩ := p
  refine ⟨f, ys, ey, ?_⟩
  rw [ed, show (some ds).getD [] = ds from rfl, hj, List.take_length] at hy
  rw [List.take_add_one, ed, List.flatten_append]
  simpa using hy
theorem PwO.done (p : PwO K S D dss i H) (hi : i = dss.length) : ∃ ys, H D = some (.lst ys) ∧ TpAll K H ys dss.flatten := by
  obtain ⟨f, ys, ey, hy⟩ := p
  rw [hi, List.take_length] at hy
  exact ⟨ys, ey, hy⟩
end

/-! ### places -/
structure Pl where
  nm : Str
  r : Nat
  k : Nat
  deriving DecidableEq
def Pl.d (x : Pl) : PyData := .tuple [.str x.nm, .int x.r, .int x.k]
def rowPl (nm : Str) (i : Nat) (r : Rw) : List Pl := (List.range r.parts.length).map fun k => ⟨nm, i, k⟩
def Fnc.plss (f : Fnc) : List (List Pl) := f.rows.mapIdx fun i r => rowPl f.nm i r
def Fnc.places (f : Fnc) : List Pl := f.plss.flatten
def Pg.places (p : Pg) : List Pl := p.fns.flatMap Fnc.places
theorem Pl.inv {K : PySem.W.Frag} {H : Hp} {v : V} {x : Pl} (h : Tp K H v x.d) : ∃ a, v = .ref a ∧ SqT K H a [.str x.nm, .int x.r, .int x.k] := by
  obtain ⟨a, xs, rfl, hS, hA⟩ := Tp.tup_inv h
  obtain ⟨v0, xs, rfl, t0, hA⟩ := hA.cons_inv
  obtain ⟨v1, xs, rfl, t1, hA⟩ := hA.cons_inv
  obtain ⟨v2, xs, rfl, t2, hA⟩ := hA.cons_inv
  obtain rfl := hA.nil_inv
  obtain rfl := t0.str_inv
  obtain rfl := t1.int_inv
  obtain rfl := t2.int_inv
  exact ⟨a, rfl, hS⟩

section
variable {P : Program} {w : World} {K : PySem.W.Frag} {mg : Str → Option Value} {base : Heap}
/-! ### function_of -/
def spFO (K : PySem.W.Frag) : Sp := fun vs H Q _ => ∃ (v : V) (p : Pg) (fn : Fnc), vs = [v, .str fn.nm] ∧ Tp K H v p.d ∧ PgW p ∧ fn ∈ p.fns ∧ ∀ v', Tp K H v' fn.d → Q v' H
theorem PgW.uniq {p : Pg} (h : PgW p) {f g : Fnc} (hf : f ∈ p.fns) (hg : g ∈ p.fns) (e : f.nm = g.nm) : f = g := by
  obtain ⟨i, hi, ei⟩ := List.getElem_of_mem hf
  obtain ⟨j, hj, ej⟩ := List.getElem_of_mem hg
  have h1 : (p.fns.map (·.nm))[i]? = some f.nm := by rw [List.getElem?_map, List.getElem?_eq_getElem hi, ei]; rfl
  have h2 : (p.fns.map (·.nm))[j]? = some f.nm := by rw [List.getElem?_map, List.getElem?_eq_getElem hj, ej, e]; rfl
  have e2 : i = j := (List.getElem?_inj (by rw [List.length_map]; exact hi) h.nd).mp (h1.trans h2.symm)
  subst e2
  rw [← ei, ← ej]
theorem h_function_of (D : Dfs w K mg) : Has P w K mg base 1 "function_of" (spFO K) := by
  refine D.f_function_of.has sc_function_of (fun vs H Q E h => ?_) (fun f cdv A outer s H vs Q E hr h => ?_)
  · obtain ⟨v, p, fn, rfl, _⟩ := h
    rfl
  · obtain ⟨v, p, fn, rfl, hd, hp, hfn, q⟩ := h
    refine ⟨_, (pss_cons (ps_for PassesOwn.never rfl (pi_tup (pe_ix ix_tup (pv 0) pe_int (fun _ _ => rfl))) (pg_name (i := 2) sc_function_of.nd rfl (.inl rfl)) (pss_one (ps_if (pt_cmpR op_eq (pe_ix ix_tup (pv 2) pe_int (fun _ _ => rfl)) (pv 1) (nomark _)) (pss_one (ps_ret (pv 2))) pss_nil)))
      (pss_one (ps_never))), ?_⟩
    obtain ⟨a, v0, rfl, hS, t0⟩ := Pg.inv hd
    obtain ⟨a0, xs0, rfl, hS0, hA0⟩ := t0.tup_inv
    have hl0 : xs0.length = p.fns.length := hA0.map_len
    obtain ⟨m, hm, em⟩ := List.getElem_of_mem hfn
    refine ⟨_, rfl, a, _, 0, _, rfl, rfl, hS, at0, a0, rfl, ⟨_, hS0⟩, ?_⟩
    refine for_tup (K := K) (a := a0) (xs := xs0) (fun i σ H' => H' = H ∧ i ≤ m ∧ ∃ y, σ = [some (.ref a), some (.str fn.nm), y]) ⟨rfl, Nat.zero_le _, none, rfl⟩ (fun i σ H' _ pp => by rw [pp.1]; exact hS0) (fun i x σ H' hx pp => ?_) (fun σ H' pp => ?_)
    · obtain ⟨rfl, him, y, rfl⟩ := pp
      obtain ⟨g, hgi, hgm, tg⟩ := hA0.map_get hx
      obtain ⟨b, v3, v5, rfl, hSg, _, _⟩ := Fnc.inv tg
      refine ⟨_, rfl, b, _, 0, _, rfl, rfl, hSg, at0, _, rfl, rfl, _, rfl, ?_⟩
      refine ite2 (fun hc => ?_) (fun hc => ?_)
      · have e : g.nm = fn.nm := by
          have := of_decide_eq_true hc
          injection this
        obtain rfl := hp.uniq hgm hfn e
        exact ⟨_, rfl, q _ tg⟩
      · refine ⟨rfl, ?_, _, rfl⟩
        rcases Nat.lt_or_ge i m with h | h
        · exact h
        · have : i = m := by omega
          subst this
          rw [List.getElem?_eq_getElem hm, em] at hgi
          cases hgi
          exact absurd (decide_eq_true rfl) hc
    · obtain ⟨rfl, him, _⟩ := pp
      rw [hl0] at him
      omega
/-! ### places_of_function, places_of -/
theorem Fnc.plss_at {f : Fnc} {i : Nat} {row : Rw} (h : f.rows[i]? = some row) : f.plss[i]? = some (rowPl f.nm i row) := by
  unfold Fnc.plss
  rw [List.getElem?_mapIdx, h]
  rfl
theorem Fnc.plss_len (f : Fnc) : f.plss.length = f.rows.length := by
  unfold Fnc.plss
  rw [List.length_mapIdx]
theorem flat_len {α : Type} {n : Nat} : ∀ {l : List (List α)}, (∀ x ∈ l, x.length ≤ n) → l.flatten.length ≤ n * l.length
  | [], _ => by simp
  | x :: l, h => by
    have h1 := flat_len (l := l) fun y hy => h y (List.mem_cons_of_mem _ hy)
    have h2 := h x List.mem_cons_self
    rw [List.flatten_cons, List.length_append, List.length_cons, Nat.mul_add, Nat.mul_one]
    omega
theorem rowPl_len (nm : Str) (i : Nat) (r : Rw) : (rowPl nm i r).length = r.parts.length := by
  unfold rowPl
  rw [List.length_map, List.length_range]
theorem FnW.plss_le {f : Fnc} (h : FnW f) : ∀ x ∈ f.plss, x.length ≤ 3 := by
  intro x hx
  obtain ⟨i, hi, e⟩ := List.getElem_of_mem hx
  rw [Fnc.plss_len] at hi
  have h1 := Fnc.plss_at (f := f) (List.getElem?_eq_getElem hi)
  rw [List.getElem?_eq_getElem (by rw [Fnc.plss_len]; exact hi), e] at h1
  cases h1
  rw [rowPl_len]
  exact (h.rok _ (List.getElem_mem hi)).2
theorem FnW.places_le {f : Fnc} (h : FnW f) : f.places.length ≤ 3000 := by
  have h1 := flat_len h.plss_le
  rw [Fnc.plss_len] at h1
  have := h.rlen
  unfold Fnc.places
  omega
def spPOF (K : PySem.W.Frag) : Sp := fun vs H Q _ => ∃ (v : V) (fn : Fnc), vs = [v] ∧ Tp K H v fn.d ∧ FnW fn ∧ ∀ (p : Addr) (ys : List V) (H' : Hp), Same H H' → H p = none → H' p = some (.lst ys) → TpAll K H' ys (fn.places.map Pl.d) → Q (.ref p) H'
theorem h_places_of_function (D : Dfs w K mg) : Has P w K mg base 2 "places_of_function" (spPOF K) := by
  refine D.f_places_of_function.has sc_places_of_function (fun vs H Q E h => ?_) (fun f cdv A outer s H vs Q E hr h => ?_)
  · obtain ⟨v, fn, rfl, _⟩ := h
    rfl
  · obtain ⟨v, fn, rfl, hd, hx, q⟩ := h
    refine ⟨_, (pss_cons (ps_set (i := 1) sc_places_of_function.nd rfl (.inl rfl) (pe_lst pa_nil))
      (pss_cons (ps_for PassesOwn.never rfl (pi_enumT (by rfl) D.b_enumerate (pa_cons (pe_ix ix_tup (pv 0) pe_int (fun _ _ => rfl)) pa_nil)) (pg_tup rfl (pgs_cons (pg_name (i := 2) sc_places_of_function.nd rfl (.inr rfl)) (pgs_cons (pg_name (i := 3) sc_places_of_function.nd rfl (.inl rfl)) pgs_nil))) (pss_one (ps_expr (pe_bm PySem.F.plainAttrs_list PySem.F.slot_list_extend PySem.F.type_list_extend mt_extend (pv 1) (pa_cons (pe_lc (own := [("part", 4)]) (te := tTup (tCons (tOp (rIxT K) (tVar 0) (tC (.int 0))) (tCons (tVar 2) (tCons (tVar 4) tNil)))) (by rfl) sc_places_of_function.nd (pi_range1 (by rfl) D.b_range (pa_cons (pc (h_places_in_row D) hr (pa_cons (pv 3) pa_nil)) pa_nil)) (blkOk_by (own := [("part", 4)]) (N := N_places_of_function) (sc := defScope s_places_of_function) (by decide +kernel)) (fun _ _ _ _ _ => (pg_name (i := 4) sc_places_of_function.nd rfl (Or.inl rfl))) (fun _ _ _ _ _ => pts_nil) (fun _ _ _ _ _ => (pe_tup (pa_cons (pe_ix ix_tup (pv 0) pe_int (fun _ _ => rfl)) (pa_cons (pv 2) (pa_cons (pv 4) pa_nil)))))) pa_nil)))))
      (pss_one (ps_ret (pv 1))))), ?_⟩
    obtain ⟨a, v3, v5, rfl, hS, _, t5⟩ := Fnc.inv hd
    obtain ⟨a5, xs5, rfl, hS5, hA5⟩ := t5.tup_inv
    have hl5 : xs5.length = fn.rows.length := hA5.map_len
    have hle := hx.places_le
    refine ⟨Nat.zero_le _, fun o no => ?_⟩
    have sO : Same H (upd H o (.lst [])) := same_upd no
    refine ⟨_, rfl, a, _, 5, _, rfl, rfl, sO.tsm _ _ hS, at5, a5, xs5, rfl, sO.tsm _ _ hS5, ?_⟩
    refine for_enumT (K := K) (a := a5) (xs := xs5) (fun i σ H' => Same H H' ∧ (∃ ys, H' o = some (.lst ys) ∧ TpAll K H' ys ((fn.plss.take i).flatten.map Pl.d)) ∧ ∃ y2 y3, σ = [some (.ref a), some (.ref o), y2, y3, none])
      ⟨sO, ⟨[], upd_same, by rw [List.take_zero]; exact .nil⟩, none, none, rfl⟩ (fun i σ H' _ pp => pp.1.tsm _ _ hS5) (fun i x T σ H4 hx5 p4 nT => ?_) (fun σ H4 p4 => ?_)
    · obtain ⟨sm, ⟨ys, eo, hy⟩, y2, y3, rfl⟩ := p4
      obtain ⟨row, hri, hrm, tr⟩ := hA5.map_get hx5
      have sT : Same H4 (upd H4 T (.tup [.int (i : Nat), x])) := same_upd nT
      refine ⟨T, _, rfl, .of upd_same, rfl, _, _, rfl, _, _, rfl, rfl, ?_⟩
      generalize hG : upd H4 T (.tup [.int (i : Nat), x]) = G at sT
      have sG := sm.trans sT
      refine ⟨_, rfl, .inl ⟨rfl, _, .of (sT _ _ eo)⟩, ?_⟩
      refine ⟨_, rfl, x, row, rfl, tr.mono sG.tsm, fun H5 s5 => ?_⟩
      have s45 := sT.trans s5
      have hp3 := (hx.rok row hrm).2
      refine ⟨_, rfl, by omega, by omega, fun Dl nL => ?_⟩
      refine walkR (lo := 0) (n := row.parts.length) (PvS K H5 Dl ((rowPl fn.nm i row).map Pl.d)) (PvS.zero nL) (fun j H6 hj p6 => ?_) (fun H6 p6 => ?_)
      · refine ⟨rfl, _, rfl, a, _, 0, _, rfl, rfl, (sm.trans (s45.trans p6.1)).tsm _ _ hS, at0, _, rfl, _, rfl, len3_line, fun c nc => ?_⟩
        have sc6 : Same H6 (upd H6 c (.tup [.str fn.nm, .int (i : Nat), .int (0 + (j : Nat))])) := same_upd nc
        refine PvS.step nL p6 (by omega) sc6 (d := Pl.d ⟨fn.nm, i, j⟩) ?_ ?_
        · rw [List.getElem?_map]
          unfold rowPl
          rw [List.getElem?_map, List.getElem?_range hj]
          rfl
        · refine .tup (.of upd_same) (.cons (.str _) (.cons (.int _) (.cons ?_ .nil)))
          rw [show (0 : Int) + (j : Nat) = (j : Nat) by omega]
          exact .int _
      · obtain ⟨zs, ez, hz⟩ := p6.done (by rw [List.length_map, rowPl_len])
        have s46 := s45.trans p6.1
        refine ⟨o, Dl, ys, zs, rfl, rfl, s46 _ _ eo, ez, ?_, ?_⟩
        · rw [hy.length, hz.length, List.length_map, List.length_map, rowPl_len]
          have h1 := flat_len (n := 3) (l := fn.plss.take i) fun y hy => hx.plss_le y (List.mem_of_mem_take hy)
          rw [List.length_take, Fnc.plss_len] at h1
          have := hx.rlen
          exact Nat.le_of_lt (Nat.lt_trans (by omega : _ < 1000000) big6)
        · have t6 : TSm K H6 (upd H6 o (.lst (ys ++ zs))) := tsm_upd (s46 _ _ eo) rfl
          refine ⟨fun b ob e => ?_, ⟨ys ++ zs, upd_same, ?_⟩, _, _, rfl⟩
          · rw [upd_ne (ne_of_none e no)]
            exact s46 _ _ (sm _ _ e)
          · rw [List.take_add_one, Fnc.plss_at hri, List.flatten_append, List.map_append]
            refine (hy.mono (s46.tsm.trans t6)).append ?_
            have := hz.mono t6
            simpa using this
    · obtain ⟨sm, ⟨ys, eo, hy⟩, y2, y3, rfl⟩ := p4
      rw [hl5, ← Fnc.plss_len, List.take_length] at hy
      exact ⟨_, rfl, q o ys _ sm no eo hy⟩
end
end B9

/-! The readers of places. -/
namespace B9
open PySem PySem.Spec PyProof.Rows L2

theorem flatMap_len {α β : Type} {n : Nat} {f : α → List β} : ∀ {l : List α}, (∀ x ∈ l, (f x).length ≤ n) → (l.flatMap f).length ≤ n * l.length
  | [], _ => by simp
  | x :: l, h => by
    have h1 := flatMap_len (l := l) fun y hy => h y (List.mem_cons_of_mem _ hy)
    have h2 := h x List.mem_cons_self
    rw [List.flatMap_cons, List.length_append, List.length_cons, Nat.mul_add, Nat.mul_one]
    omega
theorem PgW.places_le {p : Pg} (h : PgW p) : p.places.length ≤ 9000 := by
  have h1 := flatMap_len (l := p.fns) (f := Fnc.places) (n := 3000) fun f hf => (h.fok f hf).places_le
  have := h.len
  unfold Pg.places
  omega
/-- what stands at a place -/
structure At (p : Pg) (x : Pl) (f : Fnc) (row : Rw) (e : Ex) : Prop where
  f_in : f ∈ p.fns
  nm : f.nm = x.nm
  row_at : f.rows[x.r]? = some row
  part_at : row.parts[x.k]? = some e
theorem Fnc.mem_places {f : Fnc} {x : Pl} : x ∈ f.places ↔ f.nm = x.nm ∧ ∃ row e, f.rows[x.r]? = some row ∧ row.parts[x.k]? = some e := by
  unfold Fnc.places
  rw [List.mem_flatten]
  constructor
  · rintro ⟨l, hl, hx⟩
    obtain ⟨i, hi, e⟩ := List.getElem_of_mem hl
    have hi' := hi
    rw [Fnc.plss_len] at hi'
    have h1 := Fnc.plss_at (f := f) (List.getElem?_eq_getElem hi')
    rw [List.getElem?_eq_getElem hi, e] at h1
    cases h1
    unfold rowPl at hx
    obtain ⟨k, hk, rfl⟩ := List.mem_map.mp hx
    rw [List.mem_range] at hk
    exact ⟨rfl, _, _, List.getElem?_eq_getElem hi', List.getElem?_eq_getElem hk⟩
  · rintro ⟨hn, row, e, hr, he⟩
    refine ⟨rowPl f.nm x.r row, List.mem_of_getElem? (Fnc.plss_at hr), ?_⟩
    unfold rowPl
    refine List.mem_map.mpr ⟨x.k, List.mem_range.mpr (List.getElem?_eq_some_iff.mp he).1, ?_⟩
    rw [hn]
theorem Pg.mem_places {p : Pg} {x : Pl} : x ∈ p.places ↔ ∃ f row e, At p x f row e := by
  unfold Pg.places
  rw [List.mem_flatMap]
  constructor
  · rintro ⟨f, hf, hx⟩
    obtain ⟨hn, row, e, hr, he⟩ := Fnc.mem_places.mp hx
    exact ⟨f, row, e, hf, hn, hr, he⟩
  · rintro ⟨f, row, e, h⟩
    exact ⟨f, h.f_in, Fnc.mem_places.mpr ⟨h.nm, row, e, h.row_at, h.part_at⟩⟩
theorem At.places {p : Pg} {x : Pl} {f : Fnc} {row : Rw} {e : Ex} (h : At p x f row e) : x ∈ p.places := Pg.mem_places.mpr ⟨f, row, e, h⟩
theorem Pl.lay {x : Pl} (h : okNm x.nm = true) : x.d.canLay0 = true ∧ x.d.depth ≤ 1 := by
  refine ⟨layT fun d hd => ?_, depT (n := 0) fun d hd => ?_⟩
  · simp only [List.mem_cons, List.not_mem_nil, or_false] at hd
    rcases hd with rfl | rfl | rfl
    · exact lay_str h
    · simp only [PyData.canLay0]
    · simp only [PyData.canLay0]
  · simp only [List.mem_cons, List.not_mem_nil, or_false] at hd
    rcases hd with rfl | rfl | rfl <;> simp only [PyData.depth] <;> omega
theorem Pl.shaped {x : Pl} (h : okNm x.nm = true) : SeqAt.shaped x.d = true := shaped_of (Pl.lay h).1 (Nat.le_trans (Pl.lay h).2 (by decide))
theorem PgW.pl_ok {p : Pg} (h : PgW p) {x : Pl} (hx : x ∈ p.places) : okNm x.nm = true := by
  obtain ⟨f, row, e, a⟩ := Pg.mem_places.mp hx
  rw [← a.nm]
  exact (h.fok f a.f_in).nm
theorem shapedT {ds : List PyData} (h : ∀ d ∈ ds, d.canLay0 = true ∧ d.depth ≤ 60) : SeqAt.shaped (.tuple ds) = true := by
  refine shaped_of (layT fun d hd => (h d hd).1) (Nat.le_trans (depT (n := 60) fun d hd => (h d hd).2) (by decide))
theorem any_self {ds : List PyData} {d : PyData} (l : d.canLay0 = true) (h : d ∈ ds) : (ds.any fun z => PyData.eqv z d) = true := by
  rw [List.any_eq_true]
  exact ⟨d, h, SeqAt.eqv_refl d l⟩

section
variable {P : Program} {w : World} {K : PySem.W.Frag} {mg : Str → Option Value} {base : Heap}
def spPO (K : PySem.W.Frag) : Sp := fun vs H Q _ => ∃ (v : V) (p : Pg), vs = [v] ∧ Tp K H v p.d ∧ PgW p ∧ Rt K H Q (.tuple (p.places.map Pl.d))
theorem h_places_of (D : Dfs w K mg) : Has P w K mg base 3 "places_of" (spPO K) := by
  refine D.f_places_of.has sc_places_of (fun vs H Q E h => ?_) (fun f cdv A outer s H vs Q E hr h => ?_)
  · obtain ⟨v, p, rfl, _⟩ := h
    rfl
  · obtain ⟨v, p, rfl, hd, hp, q⟩ := h
    refine ⟨_, (pss_one (ps_ret (pe_callTy call_tuple_of (by rfl) D.b_tuple (by decide +kernel) (pa_cons (pe_lc2 (vs1 := [2]) (own := [("function", 1), ("place", 2)]) (wi1 := iList K (tPc (spPOF K) (tCons (tVar 1) tNil))) (by rfl) sc_places_of.nd (pi_tup (pe_ix ix_tup (pv 0) pe_int (fun _ _ => rfl))) (blkOk_by (own := [("function", 1), ("place", 2)]) (N := N_places_of) (sc := defScope s_places_of) (by decide +kernel)) (by decide) (fun _ _ _ _ _ => (pg_name (i := 1) sc_places_of.nd rfl (Or.inl rfl))) (fun _ _ _ _ _ => pts_nil) (fun _ _ _ _ _ => (pi_list (pc (h_places_of_function D) hr (pa_cons (pv 1) pa_nil)))) (fun _ _ _ _ _ => (pg_name (i := 2) sc_places_of.nd rfl (Or.inl rfl))) (fun _ _ _ _ _ => pts_nil) (fun _ _ _ _ _ => (pv 2))) pa_nil)))), ?_⟩
    obtain ⟨a, v0, rfl, hS, t0⟩ := Pg.inv hd
    obtain ⟨a0, xs0, rfl, hS0, hA0⟩ := t0.tup_inv
    have hl0 : xs0.length = p.fns.length := hA0.map_len
    generalize hdss : (p.fns.map fun g : Fnc => g.places.map Pl.d) = dss
    have hflat : dss.flatten = p.places.map Pl.d := by
      rw [← hdss]
      unfold Pg.places
      rw [List.map_flatMap, List.flatMap]
    have hz : dss.flatten.length < 1000000 := by
      rw [hflat, List.length_map]
      have := hp.places_le
      omega
    refine ⟨_, rfl, a, _, 0, _, rfl, rfl, hS, at0, a0, rfl, ⟨_, hS0⟩, fun Dl nL => ?_⟩
    refine walkT (K := K) (a := a0) (xs := xs0) (PwO K H Dl dss) (PwO.zero nL) (fun i H' _ pp => pp.1.tsm _ _ hS0) (fun i x H7 hx7 p7 => ?_) (fun H7 p7 => ?_)
    · obtain ⟨fn, hfi, hfm, tf⟩ := hA0.map_get hx7
      have ed : dss[i]? = some (fn.places.map Pl.d) := by rw [← hdss, List.getElem?_map, hfi]; rfl
      refine ⟨rfl, _, rfl, x, fn, rfl, tf.mono p7.1.tsm, hp.fok fn hfm, fun o ys H8 s8 no eo hy => ?_⟩
      refine ⟨o, rfl, ⟨_, .of eo⟩, ?_⟩
      have no' : o ≠ Dl := fun z => by
        obtain ⟨_, zs, ez, _⟩ := p7
        rw [z, ez] at no
        cases no
      refine walkL (K := K) (a := o) (xs := ys) (fun j H' => PwI K H Dl dss i j H' ∧ H' o = some (.lst ys) ∧ TSm K H8 H') ⟨p7.inner s8, eo, TSm.refl⟩ (fun j H' _ pp => .of pp.2.1) (fun j y H9 hy9 p9 => ?_) (fun H9 p9 => ?_)
      · obtain ⟨pI, e9, t9⟩ := p9
        obtain ⟨d, hd9, ty⟩ := hy.get hy9
        obtain ⟨acc, ea, hl, pI2⟩ := PwI.step nL hz pI (Same.refl _) ed hd9 (ty.mono t9)
        refine ⟨rfl, _, rfl, acc, ea, hl, pI2, ?_, t9.trans (tsm_upd ea rfl)⟩
        rw [upd_ne no']
        exact e9
      · exact p9.1.done ed hy.length
    · obtain ⟨ys, ey, hy⟩ := p7.done (by rw [hl0, ← hdss, List.length_map])
      refine ⟨Dl, ys, rfl, .inl ⟨.of ey, fun l nl => ?_⟩⟩
      have sl : Same H7 (upd H7 l (.tup ys)) := same_upd nl
      refine q _ _ (p7.1.trans sl) ?_
      rw [← hflat]
      exact .tup (.of upd_same) (hy.mono sl.tsm)
/-! ### is_place, function_at, names_at, expression_at -/
theorem rin65 {k : Nat} {A : Around} (hr : Room k A) (hk : 1 ≤ k) : A.units + 65 < cLine := by
  have := hr.un
  omega
def spIP (K : PySem.W.Frag) : Sp := fun vs H Q _ => ∃ (v u : V) (p : Pg) (x : Pl), vs = [v, u] ∧ Tp K H v p.d ∧ PgW p ∧ Tp K H u x.d ∧ x ∈ p.places ∧ ∀ H', Same H H' → Q (.bl true) H'
theorem h_is_place (D : Dfs w K mg) : Has P w K mg base 4 "is_place" (spIP K) := by
  refine D.f_is_place.has sc_is_place (fun vs H Q E h => ?_) (fun f cdv A outer s H vs Q E hr h => ?_)
  · obtain ⟨v, u, p, x, rfl, _⟩ := h
    rfl
  · obtain ⟨v, u, p, x, rfl, hd, hp, hx, hm, q⟩ := h
    refine ⟨_, (pss_cons (ps_if (PW.pt (pw_or (pt_not (pt_val (pe_callB call_isi (by rfl) D.b_isinstance (by decide +kernel) (pa_cons (pv 1) (pa_cons (pe_ty (n := "tuple") (by rfl) D.b_tuple (by decide +kernel)) pa_nil))))) (pw_or (pt_cmpR op_ne (pe_callB call_len (by rfl) D.b_len (by decide +kernel) (pa_cons (pv 1) pa_nil)) pe_int (nomark _)) (pw_or (pt_not (pt_val (pc (h_is_integer D) hr (pa_cons (pe_ix ix_tup (pv 1) pe_int (fun _ _ => rfl)) pa_nil)))) (pw_or1 (pt_not (pt_val (pc (h_is_integer D) hr (pa_cons (pe_ix ix_tup (pv 1) pe_int (fun _ _ => rfl)) pa_nil))))))))) (pss_one (ps_ret pe_bl)) pss_nil)
      (pss_one (ps_ret (pe_cmpR (op_inT (rin65 hr (by decide))) (pv 1) (pc (h_places_of D) hr (pa_cons (pv 0) pa_nil)) (by rfl))))), ?_⟩
    have hsh := Pl.shaped (hp.pl_ok hm)
    obtain ⟨b, rfl, hSb⟩ := Pl.inv hx
    refine ⟨_, rfl, _, _, _, _, _, rfl, .ty _, hx.ty, kit_tup hx, _, rfl, ?_⟩
    refine ⟨_, rfl, _, 3, rfl, .inr ⟨_, hSb, rfl⟩, rfl, _, rfl, ?_⟩
    refine iteF1 (b := !decide (V.int ((3 : Nat) : Int) = V.int 3)) (by decide +kernel) ?_
    refine ⟨_, rfl, b, _, 1, _, rfl, rfl, hSb, at1, _, _, rfl, .int _, _, rfl, ?_⟩
    refine ⟨_, rfl, b, _, 2, _, rfl, rfl, hSb, at2, _, _, rfl, .int _, _, rfl, ?_⟩
    refine ⟨_, rfl, _, rfl, _, p, rfl, hd, hp, fun v' H' s' tv => ?_⟩
    refine ⟨_, _, (hx.mono s'.tsm).dp, tv.dp, hsh, ?_, ?_⟩
    · refine shapedT fun d hd => ?_
      obtain ⟨y, hy, rfl⟩ := List.mem_map.mp hd
      have := Pl.lay (hp.pl_ok hy)
      exact ⟨this.1, Nat.le_trans this.2 (by decide)⟩
    · have e : ((p.places.map Pl.d).any fun z => PyData.eqv z x.d) = true := any_self (Pl.lay (hp.pl_ok hm)).1 (List.mem_map.mpr ⟨x, hm, rfl⟩)
      show Q (.bl ((p.places.map Pl.d).any fun z => PyData.eqv z x.d)) H'
      rw [e]
      exact q _ s'
def spFA (K : PySem.W.Frag) : Sp := fun vs H Q _ => ∃ (v u : V) (p : Pg) (x : Pl) (fn : Fnc) (row : Rw) (e : Ex), vs = [v, u] ∧ Tp K H v p.d ∧ PgW p ∧ Tp K H u x.d ∧ At p x fn row e ∧ ∀ v' H', Same H H' → Tp K H' v' fn.d → Q v' H'
theorem h_function_at (D : Dfs w K mg) : Has P w K mg base 5 "function_at" (spFA K) := by
  refine D.f_function_at.has sc_function_at (fun vs H Q E h => ?_) (fun f cdv A outer s H vs Q E hr h => ?_)
  · obtain ⟨v, u, p, x, fn, row, e, rfl, _⟩ := h
    rfl
  · obtain ⟨v, u, p, x, fn, row, e, rfl, hd, hp, hx, ha, q⟩ := h
    refine ⟨_, (pss_cons (ps_if (pt_not (pt_val (pc (h_is_place D) hr (pa_cons (pv 0) (pa_cons (pv 1) pa_nil))))) (pss_one (ps_never)) pss_nil)
      (pss_one (ps_ret (pc (h_function_of D) hr (pa_cons (pv 0) (pa_cons (pe_ix ix_tup (pv 1) pe_int (fun _ _ => rfl)) pa_nil)))))), ?_⟩
    obtain ⟨b, rfl, hSb⟩ := Pl.inv hx
    refine ⟨_, rfl, _, rfl, _, _, p, x, rfl, hd, hp, hx, ha.places, fun H1 s1 => ⟨_, rfl, ?_⟩⟩
    refine ⟨_, rfl, _, rfl, b, _, 0, _, rfl, rfl, s1.tsm _ _ hSb, at0, ?_⟩
    rw [← ha.nm]
    exact ⟨_, p, fn, rfl, hd.mono s1.tsm, hp, ha.f_in, fun v' tv => q _ _ s1 tv⟩
def spNA (K : PySem.W.Frag) : Sp := fun vs H Q _ => ∃ (v u : V) (p : Pg) (x : Pl) (fn : Fnc) (row : Rw) (e : Ex), vs = [v, u] ∧ Tp K H v p.d ∧ PgW p ∧ Tp K H u x.d ∧ At p x fn row e ∧ Rt K H Q (.tuple (fn.names.map .str))
theorem h_names_at (D : Dfs w K mg) : Has P w K mg base 6 "names_at" (spNA K) := by
  refine D.f_names_at.has sc_names_at (fun vs H Q E h => ?_) (fun f cdv A outer s H vs Q E hr h => ?_)
  · obtain ⟨v, u, p, x, fn, row, e, rfl, _⟩ := h
    rfl
  · obtain ⟨v, u, p, x, fn, row, e, rfl, hd, hp, hx, ha, q⟩ := h
    refine ⟨_, (pss_one (ps_ret (pe_callTy call_tuple_of (by rfl) D.b_tuple (by decide +kernel) (pa_cons (pe_lc (own := [("own", 2)]) (te := tOp (rIxT K) (tVar 2) (tC (.int 0))) (by rfl) sc_names_at.nd (pi_tup (pe_ix ix_tup (pc (h_function_at D) hr (pa_cons (pv 0) (pa_cons (pv 1) pa_nil))) pe_int (fun _ _ => rfl))) (blkOk_by (own := [("own", 2)]) (N := N_names_at) (sc := defScope s_names_at) (by decide +kernel)) (fun _ _ _ _ _ => (pg_name (i := 2) sc_names_at.nd rfl (Or.inl rfl))) (fun _ _ _ _ _ => pts_nil) (fun _ _ _ _ _ => (pe_ix ix_tup (pv 2) pe_int (fun _ _ => rfl)))) pa_nil)))), ?_⟩
    have hx3 := (hp.fok fn ha.f_in).vlen
    refine ⟨_, rfl, _, rfl, _, _, p, x, fn, row, e, rfl, hd, hp, hx, ha, fun v' H1 s1 tv => ?_⟩
    obtain ⟨a, v3, v5, rfl, hS, t3, _⟩ := Fnc.inv tv
    obtain ⟨a3, xs3, rfl, hS3, hA3⟩ := t3.tup_inv
    have hl3 : xs3.length = fn.vars.length := hA3.map_len
    refine ⟨a, _, 3, _, rfl, rfl, hS, at3, a3, rfl, ⟨_, hS3⟩, fun Dl nL => ?_⟩
    refine walkT (K := K) (a := a3) (xs := xs3) (PvX H1 Dl (fn.names.map V.str)) (PvX.zero nL) (fun i H' _ p => p.1.tsm _ _ hS3) (fun i y H3 hy3 pp => ?_) (fun H3 pp => ?_)
    · obtain ⟨vr, hvi, hvm, tvr⟩ := hA3.map_get hy3
      obtain ⟨av, rfl, hSv⟩ := Vr.inv tvr
      have hi : i < fn.vars.length := (List.getElem?_eq_some_iff.mp hvi).1
      refine ⟨rfl, _, rfl, av, _, 0, _, rfl, rfl, pp.1.tsm _ _ hSv, at0, ?_⟩
      exact PvX.step nL pp (by omega) (Same.refl _) (by rw [List.getElem?_map]; unfold Fnc.names; rw [List.getElem?_map, hvi]; rfl)
    · have eN : H3 Dl = some (.lst (fn.names.map V.str)) := by
        refine PvX.done (S := H1) ?_
        have el : (fn.names.map V.str).length = xs3.length := by rw [hl3, List.length_map]; unfold Fnc.names; rw [List.length_map]
        rw [el]
        exact pp
      refine ⟨Dl, _, rfl, .inl ⟨.of eN, fun l nl => ?_⟩⟩
      have sl : Same H3 (upd H3 l (.tup (fn.names.map V.str))) := same_upd nl
      exact q _ _ (s1.trans (pp.1.trans sl)) (.tup (.of upd_same) (tpAll_strs _))
def spEA (K : PySem.W.Frag) : Sp := fun vs H Q _ => ∃ (v u : V) (p : Pg) (x : Pl) (fn : Fnc) (row : Rw) (e : Ex), vs = [v, u] ∧ Tp K H v p.d ∧ PgW p ∧ Tp K H u x.d ∧ At p x fn row e ∧ Rt K H Q e.d
theorem h_expression_at (D : Dfs w K mg) : Has P w K mg base 6 "expression_at" (spEA K) := by
  refine D.f_expression_at.has sc_expression_at (fun vs H Q E h => ?_) (fun f cdv A outer s H vs Q E hr h => ?_)
  · obtain ⟨v, u, p, x, fn, row, e, rfl, _⟩ := h
    rfl
  · obtain ⟨v, u, p, x, fn, row, e, rfl, hd, hp, hx, ha, q⟩ := h
    refine ⟨_, (pss_cons (ps_set (i := 2) sc_expression_at.nd rfl (.inl rfl) (pe_ix ix_tup (pe_ix ix_tup (pc (h_function_at D) hr (pa_cons (pv 0) (pa_cons (pv 1) pa_nil))) pe_int (fun _ _ => rfl)) (pe_ix ix_tup (pv 1) pe_int (fun _ _ => rfl)) (fun _ _ => rfl)))
      (pss_one (ps_ret (pe_ifExp (pt_cmpR op_eq (pe_ix ix_tup (pv 2) pe_int (fun _ _ => rfl)) pe_str (nomark _)) (pe_ix ix_tup (pe_ix ix_tup (pv 2) pe_int (fun _ _ => rfl)) (pe_ix ix_tup (pv 1) pe_int (fun _ _ => rfl)) (fun _ _ => rfl)) (pe_ix ix_tup (pv 2) (pe_un un_neg pe_int) (fun _ _ => rfl)))))), ?_⟩
    refine ⟨_, rfl, _, rfl, _, _, p, x, fn, row, e, rfl, hd, hp, hx, ha, fun v' H1 s1 tv => ?_⟩
    obtain ⟨a, v3, v5, rfl, hS, _, t5⟩ := Fnc.inv tv
    obtain ⟨a5, xs5, rfl, hS5, hA5⟩ := t5.tup_inv
    obtain ⟨b, rfl, hSb⟩ := Pl.inv hx
    have hSb1 := s1.tsm _ _ hSb
    obtain ⟨vr, hvr, tr⟩ := hA5.at (i := x.r) (d := row.d) (by rw [List.getElem?_map, ha.row_at]; rfl)
    refine ⟨a, _, 5, _, rfl, rfl, hS, at5, _, rfl, b, _, 1, _, rfl, rfl, hSb1, at1, a5, xs5, _, vr, rfl, rfl, hS5, atI_nat hvr, ?_⟩
    obtain ⟨c, ys, rfl, hSc, hA⟩ := Rw.inv tr
    refine ⟨_, rfl, c, _, 0, _, rfl, rfl, hSc, at0, rfl, _, rfl, ?_⟩
    by_cases hcall : ∃ z g as, row = .call z g as
    · obtain ⟨z, g, as, rfl⟩ := hcall
      obtain ⟨b2, zs, rfl, hb2, hB⟩ := call_inv hA
      have hpart : as[x.k]? = some e := ha.part_at
      obtain ⟨ve, hve, te⟩ := hB.at (i := x.k) (d := e.d) (by rw [List.getElem?_map, hpart]; rfl)
      refine iteT1 (decide_eq_true rfl) ?_
      exact ⟨_, rfl, c, _, 3, _, rfl, rfl, hSc, at3, _, rfl, b, _, 2, _, rfl, rfl, hSb1, at2, b2, zs, _, ve, rfl, rfl, hb2, atI_nat hve, q _ _ s1 te⟩
    · have hone : row.parts = [e] := by
        have hpart := ha.part_at
        cases row with
        | call z g as => exact absurd ⟨z, g, as, rfl⟩ hcall
        | els => cases hpart
        | nd => cases hpart
        | set z e' => cases hk : x.k with
          | zero => rw [hk] at hpart; cases hpart; rfl
          | succ n => rw [hk] at hpart; cases hpart
        | ifr e' => cases hk : x.k with
          | zero => rw [hk] at hpart; cases hpart; rfl
          | succ n => rw [hk] at hpart; cases hpart
        | whl e' => cases hk : x.k with
          | zero => rw [hk] at hpart; cases hpart; rfl
          | succ n => rw [hk] at hpart; cases hpart
        | ret e' => cases hk : x.k with
          | zero => rw [hk] at hpart; cases hpart; rfl
          | succ n => rw [hk] at hpart; cases hpart
      obtain ⟨zs, y, rfl, ty⟩ := one_inv hone (fun z g as h => hcall ⟨z, g, as, h⟩) hA
      have hnc : decide (V.str row.word = V.str "call") = false := by
        rw [word_call]
        cases row with
        | call z g as => exact absurd ⟨z, g, as, rfl⟩ hcall
        | _ => rfl
      refine iteF1 hnc ?_
      exact ⟨_, rfl, _, rfl, c, _, -1, _, rfl, rfl, hSc, at_last2, q _ _ s1 ty⟩
end
end B9

/-! range_of. -/
namespace B9
open PySem PySem.Spec PyProof.Rows L2

def rangeAt (p : Pg) (f : Fnc) (k : Nat) : Rw → Option (Int × Int)
  | .set x _ => (f.vars.find? fun v => decide (v.x = x)).map fun v => (v.lo, v.hi)
  | .call _ g _ => (p.fns.find? fun f => decide (f.nm = g)).bind fun f' => f'.vars[k]?.map fun v => (v.lo, v.hi)
  | .ret _ => some (f.lo, f.hi)
  | .ifr _ => some (0, 1)
  | .whl _ => some (0, 1)
  | .els => none
  | .nd => none
def rngD (r : Int × Int) : PyData := .tuple [.int r.1, .int r.2]
theorem Tp.rng {K : PySem.W.Frag} {H : Hp} {c : Addr} {r : Int × Int} (h : SqT K H c [.int r.1, .int r.2]) : Tp K H (.ref c) (rngD r) := .tup h (.cons (.int _) (.cons (.int _) .nil))

/-! ### a dict of pairs -/
theorem valV_none {kvs : List (Key × V)} {k : Key} (h : k ∉ kvs.map (·.1)) : valV kvs k = none := by
  cases e : valV kvs k with
  | none => rfl
  | some v =>
    exfalso
    have h1 : (kvs.any fun kv => decide (kv.1 = k)) = true := by rw [valV_any, e]; rfl
    rw [List.any_eq_true] at h1
    obtain ⟨kv, hm, hk⟩ := h1
    exact h (List.mem_map.mpr ⟨kv, hm, of_decide_eq_true hk⟩)
theorem mergeK_app : ∀ {more kvs : List (Key × V)}, ((kvs ++ more).map (·.1)).Nodup → mergeK kvs more = kvs ++ more
  | [], kvs, _ => by
    rw [List.append_nil]
    rfl
  | (k, v) :: more, kvs, h => by
    have hn : k ∉ kvs.map (·.1) := by
      rw [List.map_append, List.map_cons] at h
      intro hm
      have := (List.nodup_append.mp h).2.2 k hm k List.mem_cons_self
      exact this rfl
    have e : mergeK kvs ((k, v) :: more) = mergeK (putK kvs k v) more := rfl
    rw [e, putK_new (valV_none hn), mergeK_app (by rw [List.append_assoc]; exact h), List.append_assoc]
    rfl
theorem valV_at : ∀ {kvs : List (Key × V)} {i : Nat} {k : Key} {v : V}, (kvs.map (·.1)).Nodup → kvs[i]? = some (k, v) → valV kvs k = some v
  | [], i, k, v, _, h => by simp at h
  | (k', v') :: r, 0, k, v, _, h => by
    cases h
    exact valV_pos rfl
  | (k', v') :: r, i + 1, k, v, hn, h => by
    rw [List.map_cons] at hn
    obtain ⟨h1, h2⟩ := List.nodup_cons.mp hn
    have hm : k ∈ r.map (·.1) := List.mem_map.mpr ⟨(k, v), List.mem_of_getElem? (show r[i]? = some (k, v) from h), rfl⟩
    rw [valV_neg (fun e => h1 (by rw [show k' = k from e]; exact hm))]
    exact valV_at h2 h
theorem pairsR {K : PySem.W.Frag} {H : Hp} : ∀ {vars : List Vr} {ys : List V}, ys.length = vars.length →
    (∀ (j : Nat) (y : V) (vr : Vr), ys[j]? = some y → vars[j]? = some vr → ∃ c sl, y = .ref c ∧ SqT K H c [.str vr.x, .ref sl] ∧ SqT K H sl [.int vr.lo, .int vr.hi]) →
    ∃ (ps : List Addr) (kvs : List (Key × V)), ys = ps.map V.ref ∧ Paired (fun p kv => SqT K H p [kV kv.1, kv.2]) ps kvs ∧ kvs.map (·.1) = vars.map (fun v => (Sum.inr v.x : Key)) ∧
      ∀ (j : Nat) (vr : Vr), vars[j]? = some vr → ∃ sl, kvs[j]? = some (.inr vr.x, .ref sl) ∧ SqT K H sl [.int vr.lo, .int vr.hi]
  | [], [], _, _ => ⟨[], [], rfl, .nil, rfl, fun j vr e => by simp at e⟩
  | [], _ :: _, h, _ => by simp at h
  | _ :: _, [], h, _ => by simp at h
  | vr :: vars, y :: ys, hl, h => by
    obtain ⟨c, sl, rfl, h1, h2⟩ := h 0 y vr rfl rfl
    obtain ⟨ps, kvs, e1, hp, hk, ha⟩ := pairsR (vars := vars) (ys := ys) (Nat.succ.inj hl) fun j z v' hz hv => h (j + 1) z v' hz hv
    refine ⟨c :: ps, (.inr vr.x, .ref sl) :: kvs, by rw [e1]; rfl, .cons h1 hp, by rw [List.map_cons, List.map_cons, hk], fun j v' e => ?_⟩
    cases j with
    | zero => cases e; exact ⟨sl, rfl, h2⟩
    | succ j => exact ha j v' e

section
variable {P : Program} {w : World} {K : PySem.W.Frag} {mg : Str → Option Value} {base : Heap}
theorem word_ret {r : Rw} : decide (V.str r.word = V.str "return") = match r with | .ret _ => true | _ => false := by
  cases r with
  | set x e => exact (by decide +kernel : decide (V.str ("set" : Str) = V.str "return") = false)
  | ifr e => exact (by decide +kernel : decide (V.str ("if" : Str) = V.str "return") = false)
  | els => exact (by decide +kernel : decide (V.str ("else" : Str) = V.str "return") = false)
  | whl e => exact (by decide +kernel : decide (V.str ("while" : Str) = V.str "return") = false)
  | nd => exact (by decide +kernel : decide (V.str ("end" : Str) = V.str "return") = false)
  | call x g as => exact (by decide +kernel : decide (V.str ("call" : Str) = V.str "return") = false)
  | ret e => exact (by decide +kernel : decide (V.str ("return" : Str) = V.str "return") = true)
def spRO (K : PySem.W.Frag) : Sp := fun vs H Q _ => ∃ (v u : V) (p : Pg) (x : Pl) (fn : Fnc) (row : Rw) (e : Ex) (r : Int × Int), vs = [v, u] ∧ Tp K H v p.d ∧ PgW p ∧ Tp K H u x.d ∧ At p x fn row e ∧ rangeAt p fn x.k row = some r ∧ Rt K H Q (rngD r)
theorem h_range_of (D : Dfs w K mg) : Has P w K mg base 6 "range_of" (spRO K) := by
  refine D.f_range_of.has sc_range_of (fun vs H Q E h => ?_) (fun f cdv A outer s H vs Q E hr h => ?_)
  · obtain ⟨v, u, p, x, fn, row, e, r, rfl, _⟩ := h
    rfl
  · obtain ⟨v, u, p, x, fn, row, e, r, rfl, hd, hp, hx, ha, hrg, q⟩ := h
    refine ⟨_, (pss_cons (ps_asg (pc (h_function_at D) hr (pa_cons (pv 0) (pa_cons (pv 1) pa_nil))) (pg_tup rfl (pgs_cons (pg_name (i := 2) sc_range_of.nd rfl (.inl rfl)) (pgs_cons (pg_name (i := 3) sc_range_of.nd rfl (.inl rfl)) (pgs_cons (pg_name (i := 4) sc_range_of.nd rfl (.inl rfl)) (pgs_cons (pg_name (i := 5) sc_range_of.nd rfl (.inl rfl)) (pgs_cons (pg_name (i := 6) sc_range_of.nd rfl (.inl rfl)) (pgs_cons (pg_name (i := 7) sc_range_of.nd rfl (.inl rfl)) pgs_nil))))))))
      (pss_cons (ps_set (i := 8) sc_range_of.nd rfl (.inl rfl) (pe_ix ix_tup (pv 7) (pe_ix ix_tup (pv 1) pe_int (fun _ _ => rfl)) (fun _ _ => rfl)))
      (pss_cons (ps_if (pt_cmpR op_eq (pe_ix ix_tup (pv 8) pe_int (fun _ _ => rfl)) pe_str (nomark _)) (pss_one (ps_ret (pe_dget (hu_of hr) (pe_callTy (call_dictP rfl) (by rfl) D.b_dict (by decide +kernel) (pa_cons (pe_lc (own := [("own", 9)]) (te := tTup (tCons (tOp (rIxT K) (tVar 9) (tC (.int 0))) (tCons (tSl (rSlA K) (tVar 9) (tPart (tC (.int 1))) tNoPart) tNil))) (by rfl) sc_range_of.nd (pi_tup (pv 5)) (blkOk_by (own := [("own", 9)]) (N := N_range_of) (sc := defScope s_range_of) (by decide +kernel)) (fun _ _ _ _ _ => (pg_name (i := 9) sc_range_of.nd rfl (Or.inl rfl))) (fun _ _ _ _ _ => pts_nil) (fun _ _ _ _ _ => (pe_tup (pa_cons (pe_ix ix_tup (pv 9) pe_int (fun _ _ => rfl)) (pa_cons (pe_slice sl_tupA (pv 9) (po_some pe_int) po_none) pa_nil))))) pa_nil)) (pe_ix ix_tup (pv 8) pe_int (fun _ _ => rfl)) (fun _ _ => rfl)))) pss_nil)
      (pss_cons (ps_if (pt_cmpR op_eq (pe_ix ix_tup (pv 8) pe_int (fun _ _ => rfl)) pe_str (nomark _)) (pss_one (ps_ret (pe_slice sl_tupA (pe_ix ix_tup (pe_ix ix_tup (pc (h_function_of D) hr (pa_cons (pv 0) (pa_cons (pe_ix ix_tup (pv 8) pe_int (fun _ _ => rfl)) pa_nil))) pe_int (fun _ _ => rfl)) (pe_ix ix_tup (pv 1) pe_int (fun _ _ => rfl)) (fun _ _ => rfl)) (po_some pe_int) po_none))) pss_nil)
      (pss_one (ps_ret (pe_ifExp (pt_cmpR op_eq (pe_ix ix_tup (pv 8) pe_int (fun _ _ => rfl)) pe_str (nomark _)) (pe_tup (pa_cons (pv 3) (pa_cons (pv 4) pa_nil))) (pe_tup (pa_cons pe_int (pa_cons pe_int pa_nil)))))))))), ?_⟩
    have hx3 := (hp.fok fn ha.f_in).vlen
    refine ⟨_, rfl, _, rfl, _, _, p, x, fn, row, e, rfl, hd, hp, hx, ha, fun v' H1 s1 tv => ?_⟩
    obtain ⟨a, v3, v5, rfl, hS, t3, t5⟩ := Fnc.inv tv
    obtain ⟨a5, xs5, rfl, hS5, hA5⟩ := t5.tup_inv
    obtain ⟨b, rfl, hSb⟩ := Pl.inv hx
    have hSb1 := s1.tsm _ _ hSb
    obtain ⟨vr, hvr, tr⟩ := hA5.at (i := x.r) (d := row.d) (by rw [List.getElem?_map, ha.row_at]; rfl)
    obtain ⟨c, ys, rfl, hSc, hA⟩ := Rw.inv tr
    refine ⟨a, _, rfl, hS, rfl, _, _, rfl, _, _, rfl, _, _, rfl, _, _, rfl, _, _, rfl, _, _, rfl, rfl, ?_⟩
    refine ⟨_, rfl, _, rfl, b, _, 1, _, rfl, rfl, hSb1, at1, a5, xs5, _, _, rfl, rfl, hS5, atI_nat hvr, ?_⟩
    refine ⟨_, rfl, c, _, 0, _, rfl, rfl, hSc, at0, rfl, _, rfl, ?_⟩
    by_cases hset : ∃ z e', row = .set z e'
    · obtain ⟨z, e', rfl⟩ := hset
      refine iteT1 (decide_eq_true rfl) ?_
      obtain ⟨z0, zs, rfl, tz, _⟩ := hA.cons_inv
      obtain rfl := tz.str_inv
      obtain ⟨a3, xs3, rfl, hS3, hA3⟩ := t3.tup_inv
      have hl3 : xs3.length = fn.vars.length := hA3.map_len
      refine ⟨_, rfl, a3, rfl, ⟨_, hS3⟩, fun Dl nL => ?_⟩
      have hR : ∀ (i : Nat) (v : V) (G G' : Hp), TSm K G G' → (fun (i : Nat) (v : V) (H : Hp) => ∀ vr, fn.vars[i]? = some vr → ∃ c sl, v = .ref c ∧ SqT K H c [.str vr.x, .ref sl] ∧ SqT K H sl [.int vr.lo, .int vr.hi]) i v G →
          (fun (i : Nat) (v : V) (H : Hp) => ∀ vr, fn.vars[i]? = some vr → ∃ c sl, v = .ref c ∧ SqT K H c [.str vr.x, .ref sl] ∧ SqT K H sl [.int vr.lo, .int vr.hi]) i v G' := fun i v G G' t h vr e => by
        obtain ⟨c, sl, rfl, h1, h2⟩ := h vr e
        exact ⟨c, sl, rfl, t _ _ h1, t _ _ h2⟩
      refine walkT (K := K) (a := a3) (xs := xs3) (PvM H1 Dl (fun (i : Nat) (v : V) (H : Hp) => ∀ vr, fn.vars[i]? = some vr → ∃ c sl, v = .ref c ∧ SqT K H c [.str vr.x, .ref sl] ∧ SqT K H sl [.int vr.lo, .int vr.hi])) (PvM.zero nL) (fun i H' _ p => p.1.tsm _ _ hS3) (fun i y H3 hy3 pp => ?_) (fun H3 pp => ?_)
      · obtain ⟨vr, hvi, hvm, tvr⟩ := hA3.map_get hy3
        obtain ⟨av, rfl, hSv⟩ := Vr.inv tvr
        have hi : i < fn.vars.length := (List.getElem?_eq_some_iff.mp hvi).1
        have hSv3 := pp.1.tsm _ _ hSv
        refine ⟨rfl, _, rfl, av, _, 0, _, rfl, rfl, hSv3, at0, _, rfl, 1, rfl, av, _, rfl, hSv3, (fun z => absurd z not_whole1), fun _ sl nsl => ?_⟩
        have s3 : Same H3 (upd H3 sl (.tup (cutV [.str vr.x, .int vr.lo, .int vr.hi] (some 1) none))) := same_upd nsl
        have hsl : (upd H3 sl (.tup (cutV [.str vr.x, .int vr.lo, .int vr.hi] (some 1) none))) sl = some (.tup [.int vr.lo, .int vr.hi]) := by rw [upd_same, cutV_1]
        generalize upd H3 sl (.tup (cutV [.str vr.x, .int vr.lo, .int vr.hi] (some 1) none)) = H4 at s3 hsl
        refine ⟨len2_line, fun c4 nc4 => ?_⟩
        have s4 : Same H4 (upd H4 c4 (.tup [.str vr.x, .ref sl])) := same_upd nc4
        refine PvM.step hR nL pp (by omega) (s3.trans s4) fun vr' e' => ?_
        rw [hvi] at e'
        cases e'
        exact ⟨c4, sl, rfl, .of upd_same, .of (s4 _ _ hsl)⟩
      · obtain ⟨sm, ws, ew, hlw, hw⟩ := pp
        obtain ⟨ps, kvs, rfl, hpr, hk, hat⟩ := pairsR (K := K) (H := H3) (vars := fn.vars) (ys := ws) (by rw [hlw, hl3]) fun j y vr hy hv => hw j y hy vr hv
        have hnd : (kvs.map (·.1)).Nodup := by
          rw [hk]
          have h1 : (fn.vars.map fun v => (Sum.inr v.x : Key)) = fn.names.map Sum.inr := by unfold Fnc.names; rw [List.map_map]; rfl
          rw [h1]
          unfold List.Nodup
          rw [List.pairwise_map]
          exact (hp.fok fn ha.f_in).nd.imp fun h e => h (Sum.inr.inj e)
        refine ⟨Dl, ps, kvs, rfl, .of ew, hpr, fun pd npd => ?_⟩
        have s5 : Same H3 (upd H3 pd (.dK (mergeK [] kvs))) := same_upd npd
        have s15 := sm.trans s5
        have hm : mergeK [] kvs = kvs := mergeK_app (kvs := []) hnd
        -- the variable that the row sets
        have hrg : (fn.vars.find? fun v => decide (v.x = z)).map (fun v => (v.lo, v.hi)) = some r := hrg
        cases hf : fn.vars.find? (fun v => decide (v.x = z)) with
        | none => rw [hf] at hrg; cases hrg
        | some vz =>
          rw [hf] at hrg
          cases hrg
          have hvz : vz.x = z := by simpa using List.find?_some hf
          obtain ⟨jz, hjz⟩ := List.getElem?_of_mem (List.mem_of_find?_eq_some hf)
          obtain ⟨sl, hkv, hsl⟩ := hat jz vz hjz
          have hval := valV_at hnd hkv
          have e5 : (upd H3 pd (.dK (mergeK [] kvs))) pd = some (.dK kvs) := by rw [upd_same, hm]
          have hD : DGet (upd H3 pd (.dK (mergeK [] kvs))) pd (.str z) (some (.ref sl)) := by
            rw [← hvz, ← hval]
            exact DGet.k (k := Sum.inr vz.x) e5
          exact ⟨_, rfl, c, _, 1, _, rfl, rfl, s15.tsm _ _ hSc, at1, pd, _, rfl, hD, q _ _ (s1.trans s15) (Tp.rng (r := (vz.lo, vz.hi)) (s5.tsm _ _ hsl))⟩
    · have hns : decide (V.str row.word = V.str "set") = false := by
        rw [word_set]
        cases row with
        | set z e' => exact absurd ⟨z, e', rfl⟩ hset
        | _ => rfl
      refine iteF1 hns ?_
      refine ⟨_, rfl, c, _, 0, _, rfl, rfl, hSc, at0, rfl, _, rfl, ?_⟩
      by_cases hcall : ∃ z g as, row = .call z g as
      · obtain ⟨z, g, as, rfl⟩ := hcall
        refine iteT1 (decide_eq_true rfl) ?_
        obtain ⟨b2, zs, rfl, hb2, hB⟩ := call_inv hA
        have hr2 : ((p.fns.find? fun f => decide (f.nm = g)).bind fun f' => f'.vars[x.k]?.map fun v => (v.lo, v.hi)) = some r := hrg
        cases hf : p.fns.find? (fun f => decide (f.nm = g)) with
        | none => rw [hf] at hr2; cases hr2
        | some fg =>
          rw [hf] at hr2
          have hfg : fg.nm = g := by simpa using List.find?_some hf
          have hfm : fg ∈ p.fns := List.mem_of_find?_eq_some hf
          subst hfg
          cases hv : fg.vars[x.k]? with
          | none =>
            have h2 : fg.vars[x.k]?.map (fun v => (v.lo, v.hi)) = some r := hr2
            rw [hv] at h2
            cases h2
          | some vv =>
            have h2 : fg.vars[x.k]?.map (fun v => (v.lo, v.hi)) = some r := hr2
            rw [hv] at h2
            cases h2
            refine ⟨_, rfl, _, rfl, c, _, 2, _, rfl, rfl, hSc, at2, _, p, fg, rfl, hd.mono s1.tsm, hp, hfm, fun v2 t2 => ?_⟩
            obtain ⟨ag, g3, g5, rfl, hSg, tg3, _⟩ := Fnc.inv t2
            obtain ⟨ag3, xg3, rfl, hSg3, hAg3⟩ := tg3.tup_inv
            obtain ⟨vx, hvx, tvx⟩ := hAg3.at (i := x.k) (d := vv.d) (by rw [List.getElem?_map, hv]; rfl)
            obtain ⟨av, rfl, hSv⟩ := Vr.inv tvx
            refine ⟨ag, _, 3, _, rfl, rfl, hSg, at3, _, rfl, b, _, 2, _, rfl, rfl, hSb1, at2, ag3, xg3, _, _, rfl, rfl, hSg3, atI_nat hvx, 1, rfl, av, _, rfl, hSv, (fun z => absurd z not_whole1), fun _ sl nsl => ?_⟩
            have s3 : Same H1 (upd H1 sl (.tup (cutV [.str vv.x, .int vv.lo, .int vv.hi] (some 1) none))) := same_upd nsl
            refine q _ _ (s1.trans s3) (Tp.rng (r := (vv.lo, vv.hi)) (.of ?_))
            rw [upd_same, cutV_1]
      · have hnc : decide (V.str row.word = V.str "call") = false := by
          rw [word_call]
          cases row with
          | call z g as => exact absurd ⟨z, g, as, rfl⟩ hcall
          | _ => rfl
        refine iteF1 hnc ?_
        refine ⟨_, rfl, c, _, 0, _, rfl, rfl, hSc, at0, rfl, _, rfl, ?_⟩
        by_cases hret : ∃ e', row = .ret e'
        · obtain ⟨e', rfl⟩ := hret
          cases hrg
          refine iteT1 (decide_eq_true rfl) ?_
          refine ⟨_, rfl, _, rfl, len2_line, fun c2 nc2 => ?_⟩
          exact q _ _ (s1.trans (same_upd nc2)) (Tp.rng (r := (fn.lo, fn.hi)) (.of upd_same))
        · have hnr : decide (V.str row.word = V.str "return") = false := by
            rw [word_ret]
            cases row with
            | ret e' => exact absurd ⟨e', rfl⟩ hret
            | _ => rfl
          have hr01 : r = (0, 1) := by
            cases row with
            | ret e' => exact absurd ⟨e', rfl⟩ hret
            | call z g as => exact absurd ⟨z, g, as, rfl⟩ hcall
            | set z e' => exact absurd ⟨z, e', rfl⟩ hset
            | ifr e' => cases hrg; rfl
            | whl e' => cases hrg; rfl
            | els => cases hrg
            | nd => cases hrg
          subst hr01
          refine iteF1 hnr ?_
          refine ⟨len2_line, fun c2 nc2 => ?_⟩
          exact q _ _ (s1.trans (same_upd nc2)) (Tp.rng (r := (0, 1)) (.of upd_same))
end
end B9

/-! jumps_of. -/
namespace B9
open PySem PySem.Spec PyProof.Rows L2

abbrev JSt := List (Nat × Option Nat)
def Rw.isW : Rw → Bool
  | .whl _ => true
  | _ => false
def Rw.opens : Rw → Bool
  | .ifr _ => true
  | .whl _ => true
  | _ => false
def Rw.isE : Rw → Bool
  | .els => true
  | _ => false
def Rw.isN : Rw → Bool
  | .nd => true
  | _ => false
def isWhl (rows : List Rw) (b : Nat) : Bool := match rows[b]? with
  | some r => r.isW
  | none => false
def stepJ (rows : List Rw) (r : Nat) : Rw → List (Option Nat) → JSt → Option (List (Option Nat) × JSt)
  | .ifr _, fd, st => some (fd, (r, none) :: st)
  | .whl _, fd, st => some (fd, (r, none) :: st)
  | .els, fd, (b, none) :: st => some (fd.set b (some (r + 1)), (b, some r) :: st)
  | .els, _, _ => none
  | .nd, fd, (b, d) :: st => some ((fd.set r (some (if isWhl rows b then b else r + 1))).set (d.getD b) (some (r + 1)), st)
  | .nd, _, [] => none
  | _, fd, st => some (fd, st)
def JRun (rows : List Rw) (js : List (Option Nat)) : Prop := ∃ (st : Nat → JSt) (fd : Nat → List (Option Nat)), st 0 = [] ∧ fd 0 = List.replicate rows.length none ∧ fd rows.length = js ∧
  (∀ i, ∀ x ∈ st i, x.1 < rows.length ∧ ∀ e, x.2 = some e → e < rows.length) ∧ (∀ i, (st i).length ≤ 1000) ∧ ∀ i row, rows[i]? = some row → stepJ rows i row (fd i) (st i) = some (fd (i + 1), st (i + 1))
theorem stepJ_len {rows : List Rw} {r : Nat} {row : Rw} {fd fd' : List (Option Nat)} {st st' : JSt} (h : stepJ rows r row fd st = some (fd', st')) : fd'.length = fd.length := by
  cases row with
  | ifr e => cases h; rfl
  | whl e => cases h; rfl
  | els =>
    match st, h with
    | (b, none) :: st0, h => cases h; rw [List.length_set]
  | nd =>
    match st, h with
    | (b, d) :: st0, h => cases h; rw [List.length_set, List.length_set]
  | set x e => cases h; rfl
  | call x g as => cases h; rfl
  | ret e => cases h; rfl
def oV : Option Nat → V
  | none => .non
  | some n => .int n
def oD : Option Nat → PyData
  | none => .none
  | some n => .int n
theorem tp_o {K : PySem.W.Frag} {H : Hp} (o : Option Nat) : Tp K H (oV o) (oD o) := by
  cases o with
  | none => exact .non
  | some n => exact .int _
theorem tpAll_o {K : PySem.W.Frag} {H : Hp} (js : List (Option Nat)) : TpAll K H (js.map oV) (js.map oD) := by
  induction js with
  | nil => exact .nil
  | cons o r ih => exact .cons (tp_o o) ih
def restV : Option Nat → List V
  | none => []
  | some e => [.int e]
def restD : Option Nat → List PyData
  | none => []
  | some e => [.int e]
theorem rest_tp {K : PySem.W.Frag} {H : Hp} (d : Option Nat) : TpAll K H (restV d) (restD d) := by
  cases d with
  | none => exact .nil
  | some e => exact .cons (.int _) .nil
theorem rest_shaped (d : Option Nat) : SeqAt.shaped (.list (restD d)) = true := shapedL fun x hx => by
  cases d with
  | none => cases hx
  | some e =>
    rcases List.mem_singleton.mp hx with rfl
    simp only [PyData.canLay0, PyData.depth]
    exact ⟨trivial, by omega⟩
def cellV (x : Nat × Option Nat) : List V := .int x.1 :: restV x.2
/-- the opened lists, the top first -/
def Opn (H0 H : Hp) (fo o : Addr) : List Addr → JSt → Prop
  | [], [] => True
  | a :: as, x :: st => a ≠ fo ∧ a ≠ o ∧ a ∉ as ∧ H0 a = none ∧ H a = some (.lst (cellV x)) ∧ Opn H0 H fo o as st
  | _, _ => False
theorem Opn.mono {H0 H H' : Hp} {fo o : Addr} : ∀ {as : List Addr} {st : JSt}, (∀ b ∈ as, ∀ ob, H b = some ob → H' b = some ob) → Opn H0 H fo o as st → Opn H0 H' fo o as st
  | [], [], _, _ => True.intro
  | a :: as, x :: st, h, ⟨h1, h2, h3, h4, h5, h6⟩ => ⟨h1, h2, h3, h4, h a List.mem_cons_self _ h5, Opn.mono (fun b hb => h b (List.mem_cons_of_mem _ hb)) h6⟩
  | [], _ :: _, _, h => h.elim
  | _ :: _, [], _, h => h.elim
theorem Opn.same {H0 H H' : Hp} {fo o : Addr} {as : List Addr} {st : JSt} (s : Same H H') (h : Opn H0 H fo o as st) : Opn H0 H' fo o as st := h.mono fun b _ ob e => s b ob e
theorem Opn.stands {H0 H : Hp} {fo o : Addr} : ∀ {as : List Addr} {st : JSt}, Opn H0 H fo o as st → ∀ b ∈ as, ∃ zs, H b = some (.lst zs) ∧ b ≠ fo ∧ b ≠ o
  | [], [], _, b, hb => by cases hb
  | a :: as, x :: st, ⟨h1, h2, h3, h4, h5, h6⟩, b, hb => by
    rcases List.mem_cons.mp hb with rfl | hb
    · exact ⟨_, h5, h1, h2⟩
    · exact h6.stands b hb
  | [], _ :: _, h, _, _ => h.elim
  | _ :: _, [], h, _, _ => h.elim
theorem Opn.len {H0 H : Hp} {fo o : Addr} : ∀ {as : List Addr} {st : JSt}, Opn H0 H fo o as st → as.length = st.length
  | [], [], _ => rfl
  | a :: as, x :: st, ⟨_, _, _, _, _, h6⟩ => by rw [List.length_cons, List.length_cons, h6.len]
  | [], _ :: _, h => h.elim
  | _ :: _, [], h => h.elim
theorem Opn.cons_inv {H0 H : Hp} {fo o : Addr} {as : List Addr} {x : Nat × Option Nat} {st : JSt} (h : Opn H0 H fo o as (x :: st)) : ∃ a as', as = a :: as' ∧ a ≠ fo ∧ a ≠ o ∧ a ∉ as' ∧ H0 a = none ∧ H a = some (.lst (cellV x)) ∧ Opn H0 H fo o as' st := by
  match as, h with
  | a :: as', h => exact ⟨a, as', rfl, h⟩
theorem rev_last (a : Addr) (as : List Addr) : (a :: as).reverse.map V.ref = as.reverse.map V.ref ++ [V.ref a] := by
  rw [List.reverse_cons, List.map_append]
  rfl
theorem oV_succ (i : Nat) : V.int ((i : Nat) + 1) = oV (some (i + 1)) := by
  show V.int ((i : Nat) + 1) = V.int ((i + 1 : Nat) : Int)
  rw [Int.natCast_add]
  rfl
/-- another list changes -/
theorem Opn.other {H0 H : Hp} {fo o c : Addr} {ob : HO} {as : List Addr} {st : JSt} (h : Opn H0 H fo o as st) (n : c ∉ as) : Opn H0 (upd H c ob) fo o as st := h.mono fun b hb ob' e => by
  rw [upd_ne (fun z => n (by rw [← z]; exact hb))]
  exact e
theorem Opn.out_fo {H0 H : Hp} {fo o : Addr} {as : List Addr} {st : JSt} (h : Opn H0 H fo o as st) : fo ∉ as := fun hm => by
  obtain ⟨_, _, n, _⟩ := h.stands fo hm
  exact n rfl
theorem Opn.out_o {H0 H : Hp} {fo o : Addr} {as : List Addr} {st : JSt} (h : Opn H0 H fo o as st) : o ∉ as := fun hm => by
  obtain ⟨_, _, _, n⟩ := h.stands o hm
  exact n rfl
theorem word_open {r : Rw} : inV (.str r.word) [.str "if", .str "while"] = r.opens := by
  cases r with
  | set x e => exact (by decide +kernel : inV (.str ("set" : Str)) [.str "if", .str "while"] = false)
  | ifr e => exact (by decide +kernel : inV (.str ("if" : Str)) [.str "if", .str "while"] = true)
  | els => exact (by decide +kernel : inV (.str ("else" : Str)) [.str "if", .str "while"] = false)
  | whl e => exact (by decide +kernel : inV (.str ("while" : Str)) [.str "if", .str "while"] = true)
  | nd => exact (by decide +kernel : inV (.str ("end" : Str)) [.str "if", .str "while"] = false)
  | call x g as => exact (by decide +kernel : inV (.str ("call" : Str)) [.str "if", .str "while"] = false)
  | ret e => exact (by decide +kernel : inV (.str ("return" : Str)) [.str "if", .str "while"] = false)
theorem word_else {r : Rw} : decide (V.str r.word = V.str "else") = r.isE := by
  cases r with
  | set x e => exact (by decide +kernel : decide (V.str ("set" : Str) = V.str "else") = false)
  | ifr e => exact (by decide +kernel : decide (V.str ("if" : Str) = V.str "else") = false)
  | els => exact (by decide +kernel : decide (V.str ("else" : Str) = V.str "else") = true)
  | whl e => exact (by decide +kernel : decide (V.str ("while" : Str) = V.str "else") = false)
  | nd => exact (by decide +kernel : decide (V.str ("end" : Str) = V.str "else") = false)
  | call x g as => exact (by decide +kernel : decide (V.str ("call" : Str) = V.str "else") = false)
  | ret e => exact (by decide +kernel : decide (V.str ("return" : Str) = V.str "else") = false)
theorem word_end {r : Rw} : decide (V.str r.word = V.str "end") = r.isN := by
  cases r with
  | set x e => exact (by decide +kernel : decide (V.str ("set" : Str) = V.str "end") = false)
  | ifr e => exact (by decide +kernel : decide (V.str ("if" : Str) = V.str "end") = false)
  | els => exact (by decide +kernel : decide (V.str ("else" : Str) = V.str "end") = false)
  | whl e => exact (by decide +kernel : decide (V.str ("while" : Str) = V.str "end") = false)
  | nd => exact (by decide +kernel : decide (V.str ("end" : Str) = V.str "end") = true)
  | call x g as => exact (by decide +kernel : decide (V.str ("call" : Str) = V.str "end") = false)
  | ret e => exact (by decide +kernel : decide (V.str ("return" : Str) = V.str "end") = false)
theorem word_while {r : Rw} : decide (V.str r.word = V.str "while") = r.isW := by
  cases r with
  | set x e => exact (by decide +kernel : decide (V.str ("set" : Str) = V.str "while") = false)
  | ifr e => exact (by decide +kernel : decide (V.str ("if" : Str) = V.str "while") = false)
  | els => exact (by decide +kernel : decide (V.str ("else" : Str) = V.str "while") = false)
  | whl e => exact (by decide +kernel : decide (V.str ("while" : Str) = V.str "while") = true)
  | nd => exact (by decide +kernel : decide (V.str ("end" : Str) = V.str "while") = false)
  | call x g as => exact (by decide +kernel : decide (V.str ("call" : Str) = V.str "while") = false)
  | ret e => exact (by decide +kernel : decide (V.str ("return" : Str) = V.str "while") = false)
theorem pgs_star {X : Cx} {e : Expr} {p : Pos} {es : List Expr} {t : TG} {u : TGs} (h1 : PG X e t) (h2 : PGs X es u)
    (hs : (assignEach (.Starred e p :: es) X.env).map (·.2) = assign e X.env :: (assignEach es X.env).map (·.2) := by rfl) : PGs X (.Starred e p :: es) (gCons t u) := by
  refine ⟨fun pins s σ H vs us Q I r h => ?_⟩
  obtain ⟨v, vr, e1, h⟩ := h
  subst e1
  cases r with
  | cons r rr =>
    rw [hs]
    refine assignInOrder_cons (thn (h1.run pins s σ H _ _ _ I r h) fun _ s1 ⟨σ1, H1, I1, q1⟩ => ?_)
    exact h2.run pins s1 σ1 H1 _ _ Q I1 rr q1
theorem ixNn {n j : Nat} (hj : j < n) : ixN n (j : Int) = some j := by
  unfold ixN
  rw [if_pos (by omega), if_pos (by omega)]
  simp
theorem map_setN {js : List (Option Nat)} {i n : Nat} : (js.map oV).set i (V.int n) = (js.set i (some n)).map oV := by
  rw [List.map_set]
  rfl
theorem map_setS {js : List (Option Nat)} {k i : Nat} : (js.map oV).set k (V.int ((i : Nat) + 1)) = (js.set k (some (i + 1))).map oV := by
  rw [oV_succ, List.map_set]
theorem len1_line : 1 ≤ sizeLine := by decide +kernel
theorem map_set {js : List (Option Nat)} {i : Nat} {o : Option Nat} : (js.map oV).set i (oV o) = (js.set i o).map oV := by
  rw [List.map_set]
theorem rep_flat {n : Nat} : (List.replicate n [V.non]).flatten = (List.replicate n (none : Option Nat)).map oV := by
  induction n with
  | zero => rfl
  | succ n ih => rw [List.replicate_succ, List.replicate_succ, List.flatten_cons, ih]; rfl

section
variable {P : Program} {w : World} {K : PySem.W.Frag} {mg : Str → Option Value} {base : Heap}
def spJO (K : PySem.W.Frag) : Sp := fun vs H Q _ => ∃ (v : V) (rows : List Rw) (js : List (Option Nat)), vs = [v] ∧ Tp K H v (.tuple (rows.map Rw.d)) ∧ JRun rows js ∧ rows.length ≤ 1000 ∧ Rt K H Q (.tuple (js.map oD))
theorem h_jumps_of (D : Dfs w K mg) : Has P w K mg base 1 "jumps_of" (spJO K) := by
  refine D.f_jumps_of.has sc_jumps_of (fun vs H Q E h => ?_) (fun f cdv A outer s H vs Q E hr h => ?_)
  · obtain ⟨v, rows, js, rfl, _⟩ := h
    rfl
  · obtain ⟨v, rows, js, rfl, hd, ⟨st, fd, st0, fd0, fdn, hb, hsl, hstep⟩, hlen, q⟩ := h
    refine ⟨_, (pss_cons (ps_set (i := 1) sc_jumps_of.nd rfl (.inl rfl) (pe_op op_rep (pe_lst (pa_cons pe_non pa_nil)) (pe_callB call_len (by rfl) D.b_len (by decide +kernel) (pa_cons (pv 0) pa_nil))))
      (pss_cons (ps_set (i := 2) sc_jumps_of.nd rfl (.inl rfl) (pe_lst pa_nil))
      (pss_cons (ps_for PassesOwn.never rfl (pi_enumT (by rfl) D.b_enumerate (pa_cons (pv 0) pa_nil)) (pg_tup rfl (pgs_cons (pg_name (i := 3) sc_jumps_of.nd rfl (.inl rfl)) (pgs_cons (pg_name (i := 4) sc_jumps_of.nd rfl (.inl rfl)) pgs_nil))) (pss_one (ps_if (pt_cmpR op_in_seq (pe_ix ix_tup (pv 4) pe_int (fun _ _ => rfl)) (pe_tup (pa_cons pe_str (pa_cons pe_str pa_nil))) (by rfl)) (pss_one (ps_expr (pe_bm PySem.F.plainAttrs_list PySem.F.slot_list_append PySem.F.type_list_append mt_append (pv 2) (pa_cons (pe_lst (pa_cons (pv 3) pa_nil)) pa_nil)))) (pss_one (ps_if (pt_cmpR op_eq (pe_ix ix_tup (pv 4) pe_int (fun _ _ => rfl)) pe_str (nomark _)) (pss_cons (ps_asg (pe_op op_add (pv 3) pe_int) (pg_sub (pv 1) (pe_ix ix_list (pe_ix ix_list (pv 2) (pe_un un_neg pe_int) (fun _ _ => rfl)) pe_int (fun _ _ => rfl)) set_list))
      (pss_one (ps_expr (pe_bm PySem.F.plainAttrs_list PySem.F.slot_list_append PySem.F.type_list_append mt_append (pe_ix ix_list (pv 2) (pe_un un_neg pe_int) (fun _ _ => rfl)) (pa_cons (pv 3) pa_nil))))) (pss_one (ps_if (pt_cmpR op_eq (pe_ix ix_tup (pv 4) pe_int (fun _ _ => rfl)) pe_str (nomark _)) (pss_cons (ps_asg (pe_bm0 PySem.F.plainAttrs_list PySem.F.slot_list_pop PySem.F.type_list_pop mt_pop (pv 2)) (pg_star rfl (pgs_cons (pg_name (i := 5) sc_jumps_of.nd rfl (.inl rfl)) (pgs_star (pg_name (i := 6) sc_jumps_of.nd rfl (.inl rfl)) pgs_nil))))
      (pss_cons (ps_asg (pe_ifExp (pt_cmpR op_eq (pe_ix ix_tup (pe_ix ix_tup (pv 0) (pv 5) (fun _ _ => rfl)) pe_int (fun _ _ => rfl)) pe_str (nomark _)) (pv 5) (pe_op op_add (pv 3) pe_int)) (pg_sub (pv 1) (pv 3) set_list))
      (pss_one (ps_asg (pe_op op_add (pv 3) pe_int) (pg_sub (pv 1) (pe_ifExp (pt_cmpR (op_neD hr.units) (pv 6) (pe_lst pa_nil) (nomark _)) (pe_ix ix_list (pv 6) pe_int (fun _ _ => rfl)) (pv 5)) set_list))))) pss_nil)))))))
      (pss_one (ps_ret (pe_callTy call_tuple_of (by rfl) D.b_tuple (by decide +kernel) (pa_cons (pv 1) pa_nil))))))), ?_⟩
    obtain ⟨ar, xs, rfl, hR, hA⟩ := hd.tup_inv
    have hlx : xs.length = rows.length := hA.map_len
    have hls : rows.length ≤ sizeLine := Nat.le_of_lt (small1000 hlen)
    -- found = [None] * len(rows)
    refine ⟨len1_line, fun o1 no1 => ?_⟩
    have s1 : Same H (upd H o1 (.lst [.non])) := same_upd no1
    refine ⟨_, rfl, _, rows.length, rfl, .inr ⟨xs, s1.tsm _ _ hR, hlx.symm⟩, o1, _, _, rfl, rfl, upd_same, by omega, by omega, ?_, fun fo nfo => ?_⟩
    · show 1 * ((rows.length : Nat) : Int).toNat ≤ sizeLine
      rw [Int.toNat_natCast, Nat.one_mul]
      exact hls
    have e0 : (List.replicate ((rows.length : Nat) : Int).toNat [V.non]).flatten = (fd 0).map oV := by rw [Int.toNat_natCast, rep_flat, fd0]
    rw [e0]
    have s2 : Same (upd H o1 (.lst [.non])) (upd (upd H o1 (.lst [.non])) fo (.lst ((fd 0).map oV))) := same_upd nfo
    generalize hH2 : upd (upd H o1 (.lst [.non])) fo (.lst ((fd 0).map oV)) = H2 at s2
    have sH2 : Same H H2 := s1.trans s2
    have ef2 : H2 fo = some (.lst ((fd 0).map oV)) := by rw [← hH2, upd_same]
    have hfo : H fo = none := by
      cases e : H fo with
      | none => rfl
      | some ob => rw [s1 _ _ e] at nfo; cases nfo
    -- opened = []
    refine ⟨Nat.zero_le _, fun o no => ?_⟩
    have s3 : Same H2 (upd H2 o (.lst [])) := same_upd no
    have hoo : H o = none := by
      cases e : H o with
      | none => rfl
      | some ob => rw [sH2 _ _ e] at no; cases no
    have nfo_o : fo ≠ o := ne_of_none ef2 no
    refine ⟨_, rfl, ar, xs, rfl, (sH2.trans s3).tsm _ _ hR, ?_⟩
    have hlen0 : ∀ i, i ≤ rows.length → (fd i).length = rows.length := by
      intro i
      induction i with
      | zero => intro _; rw [fd0, List.length_replicate]
      | succ i ih =>
        intro hi
        rw [stepJ_len (hstep i _ (List.getElem?_eq_getElem (by omega))), ih (by omega)]
    refine for_enumT (K := K) (a := ar) (xs := xs) (fun i σ H' => Same H H' ∧ H' fo = some (.lst ((fd i).map oV)) ∧ (∃ as, H' o = some (.lst (as.reverse.map V.ref)) ∧ Opn H H' fo o as (st i)) ∧ ∃ y3 y4 y5 y6, σ = [some (.ref ar), some (.ref fo), some (.ref o), y3, y4, y5, y6])
      ⟨sH2.trans s3, s3 _ _ ef2, ⟨[], upd_same, by rw [st0]; exact True.intro⟩, none, none, none, none, rfl⟩ (fun i σ H' _ pp => pp.1.tsm _ _ hR) (fun i x T σ H4 hx p4 nT => ?_) (fun σ H4 p4 => ?_)
    · obtain ⟨sm, ef, ⟨as, eo, hO⟩, y3, y4, y5, y6, rfl⟩ := p4
      obtain ⟨row, hri, hrm, tr⟩ := hA.map_get hx
      obtain ⟨c, ys, rfl, hSc, hY⟩ := Rw.inv tr
      have hi : i < rows.length := (List.getElem?_eq_some_iff.mp hri).1
      have sT : Same H4 (upd H4 T (.tup [.int (i : Nat), .ref c])) := same_upd nT
      refine ⟨T, _, rfl, .of upd_same, rfl, _, _, rfl, _, _, rfl, rfl, ?_⟩
      generalize upd H4 T (.tup [.int (i : Nat), .ref c]) = G at sT
      have sG := sm.trans sT
      have efG := sT _ _ ef
      have eoG := sT _ _ eo
      have hOG := hO.same sT
      have hst := hstep i row hri
      have hfl := hlen0 i (by omega)
      have hasl : as.length ≤ 1000 := by rw [hO.len]; exact hsl i
      -- row[0] in ("if", "while")
      refine ⟨_, rfl, c, _, 0, _, rfl, rfl, sG.tsm _ _ hSc, at0, len2_line, fun c2 nc2 => ?_⟩
      have s5 : Same G (upd G c2 (.tup [.str "if", .str "while"])) := same_upd nc2
      refine ⟨c2, _, rfl, .inr (.of upd_same), rfl, rfl, _, rfl, ?_⟩
      generalize upd G c2 (.tup [.str "if", .str "while"]) = G5 at s5
      have sG5 := sG.trans s5
      have efG5 := s5 _ _ efG
      have eoG5 := s5 _ _ eoG
      have hOG5 := hOG.same s5
      have hof : (V.ref o) ≠ V.ref fo := fun z => by injection z with z; exact nfo_o z.symm
      by_cases hop : row.opens = true
      · refine iteT1 (by rw [word_open]; exact hop) ?_
        have hst2 : some (fd i, (i, none) :: st i) = some (fd (i + 1), st (i + 1)) := by
          cases row with
          | ifr e => exact hst
          | whl e => exact hst
          | _ => cases hop
        injection hst2 with hst2
        injection hst2 with e1 e2
        refine ⟨_, rfl, .inl ⟨rfl, _, .of eoG5⟩, _, rfl, len1_line, fun c3 nc3 => ?_⟩
        have s6 : Same G5 (upd G5 c3 (.lst [.int (i : Nat)])) := same_upd nc3
        have ec3 : (upd G5 c3 (.lst [.int (i : Nat)])) c3 = some (.lst [.int (i : Nat)]) := upd_same
        generalize upd G5 c3 (.lst [.int (i : Nat)]) = G6 at s6 ec3
        have eo6 := s6 _ _ eoG5
        have n_o : c3 ≠ o := fun z => by rw [z, eoG5] at nc3; cases nc3
        have n_fo : c3 ≠ fo := fun z => by rw [z, efG5] at nc3; cases nc3
        have n_as : c3 ∉ as := fun hm => by
          obtain ⟨zs, ez, _⟩ := hOG5.stands c3 hm
          rw [ez] at nc3
          cases nc3
        have n_H : H c3 = none := by
          cases e : H c3 with
          | none => rfl
          | some ob => rw [sG5 _ _ e] at nc3; cases nc3
        refine ⟨o, _, _, rfl, rfl, eo6, ?_, same_at hoo (sG5.trans s6), ?_, ⟨c3 :: as, ?_, ?_⟩, _, _, _, _, rfl⟩
        · rw [List.length_map, List.length_reverse]
          exact small1000 hasl
        · rw [upd_ne nfo_o, ← e1]
          exact s6 _ _ efG5
        · rw [upd_same, List.reverse_cons, List.map_append]
          rfl
        · rw [← e2]
          refine ⟨n_fo, n_o, n_as, n_H, ?_, (hOG5.same s6).other hO.out_o⟩
          rw [upd_ne n_o]
          exact ec3
      · refine iteF1 (by rw [word_open]; exact Bool.eq_false_iff.mpr hop) ?_
        refine ⟨_, rfl, c, _, 0, _, rfl, rfl, sG5.tsm _ _ hSc, at0, rfl, _, rfl, ?_⟩
        by_cases hel : row.isE = true
        · refine iteT1 (by rw [word_else]; exact hel) ?_
          obtain rfl : row = .els := by cases row <;> first | rfl | cases hel
          obtain ⟨b, st', hsi⟩ : ∃ b st', st i = (b, none) :: st' := by
            cases hs : st i with
            | nil => rw [hs] at hst; cases hst
            | cons z st' =>
              obtain ⟨b, d⟩ := z
              cases d with
              | none => exact ⟨b, st', rfl⟩
              | some d => rw [hs] at hst; cases hst
          rw [hsi] at hst hOG5
          have hst2 : some ((fd i).set b (some (i + 1)), (b, some i) :: st') = some (fd (i + 1), st (i + 1)) := hst
          injection hst2 with hst2
          injection hst2 with e1 e2
          obtain ⟨a1, as', rfl, n1, n2, n3, n4, ea, hO'⟩ := hOG5.cons_inv
          have hbl : b < rows.length := (hb i (b, none) (by rw [hsi]; exact List.mem_cons_self)).1
          have elast := rev_last a1 as'
          have ea' : G5 a1 = some (.lst [.int (b : Nat)]) := ea
          refine ⟨_, rfl, _, _, rfl, rfl, _, rfl, _, rfl, _, rfl, o, as'.reverse.map V.ref ++ [V.ref a1], -1, _, rfl, rfl, SqL.of (by rw [← elast]; exact eoG5), atI_last _ _, a1, _, 0, _, rfl, rfl, SqL.of ea', at0, fo, _, _, _, rfl, rfl, efG5, ixNn (by rw [List.length_map, hfl]; exact hbl), ?_⟩
          dsimp only
          rw [oV_succ, map_set]
          have ef7 : (upd G5 fo (.lst (((fd i).set b (some (i + 1))).map oV))) fo = some (.lst (((fd i).set b (some (i + 1))).map oV)) := upd_same
          have eo7 : (upd G5 fo (.lst (((fd i).set b (some (i + 1))).map oV))) o = some (.lst ((a1 :: as').reverse.map V.ref)) := by rw [upd_ne (Ne.symm nfo_o)]; exact eoG5
          have ea7 : (upd G5 fo (.lst (((fd i).set b (some (i + 1))).map oV))) a1 = some (.lst [.int (b : Nat)]) := by rw [upd_ne n1]; exact ea'
          have hO7 : Opn H (upd G5 fo (.lst (((fd i).set b (some (i + 1))).map oV))) fo o as' st' := hO'.other hO'.out_fo
          have s7 : Same H (upd G5 fo (.lst (((fd i).set b (some (i + 1))).map oV))) := same_at hfo sG5
          generalize upd G5 fo (.lst (((fd i).set b (some (i + 1))).map oV)) = G7 at ef7 eo7 ea7 hO7 s7
          refine ⟨_, rfl, _, rfl, o, as'.reverse.map V.ref ++ [V.ref a1], -1, _, rfl, rfl, SqL.of (by rw [← elast]; exact eo7), atI_last _ _, .inl ⟨rfl, _, .of ea7⟩, _, rfl, a1, _, _, rfl, rfl, ea7, small1000 (by show 1 ≤ 1000; decide), same_at n4 s7, ?_, ⟨a1 :: as', ?_, ?_⟩, _, _, _, _, rfl⟩
          · rw [upd_ne (Ne.symm n1), ← e1]
            exact ef7
          · rw [upd_ne (Ne.symm n2)]
            exact eo7
          · rw [← e2]
            exact ⟨n1, n2, n3, n4, upd_same, hO7.other n3⟩
        · refine iteF1 (by rw [word_else]; exact Bool.eq_false_iff.mpr hel) ?_
          refine ⟨_, rfl, c, _, 0, _, rfl, rfl, sG5.tsm _ _ hSc, at0, rfl, _, rfl, ?_⟩
          by_cases hnd : row.isN = true
          · refine iteT1 (by rw [word_end]; exact hnd) ?_
            obtain rfl : row = .nd := by cases row <;> first | rfl | cases hnd
            obtain ⟨b, d, st', hsi⟩ : ∃ b d st', st i = (b, d) :: st' := by
              cases hs : st i with
              | nil => rw [hs] at hst; cases hst
              | cons z st' => exact ⟨z.1, z.2, st', rfl⟩
            rw [hsi] at hst hOG5
            have hst2 : some (((fd i).set i (some (if isWhl rows b then b else i + 1))).set (d.getD b) (some (i + 1)), st') = some (fd (i + 1), st (i + 1)) := hst
            injection hst2 with hst2
            injection hst2 with e1 e2
            obtain ⟨a1, as', rfl, n1, n2, n3, n4, ea, hO'⟩ := hOG5.cons_inv
            obtain ⟨hbl, hdl⟩ := hb i (b, d) (by rw [hsi]; exact List.mem_cons_self)
            have elast := rev_last a1 as'
            -- begin, *divided = opened.pop()
            refine ⟨_, rfl, .inl ⟨rfl, _, .of eoG5⟩, o, as'.reverse.map V.ref ++ [V.ref a1], _, rfl, rfl, (by rw [← elast]; exact eoG5), get_last, ?_⟩
            rw [List.dropLast_concat]
            have ef7 : (upd G5 o (.lst (as'.reverse.map V.ref))) fo = some (.lst ((fd i).map oV)) := by rw [upd_ne nfo_o]; exact efG5
            have eo7 : (upd G5 o (.lst (as'.reverse.map V.ref))) o = some (.lst (as'.reverse.map V.ref)) := upd_same
            have ea7 : (upd G5 o (.lst (as'.reverse.map V.ref))) a1 = some (.lst (cellV (b, d))) := by rw [upd_ne n2]; exact ea
            have hO7 : Opn H (upd G5 o (.lst (as'.reverse.map V.ref))) fo o as' st' := hO'.other hO'.out_o
            have s7 : Same H (upd G5 o (.lst (as'.reverse.map V.ref))) := same_at hoo sG5
            generalize upd G5 o (.lst (as'.reverse.map V.ref)) = G7 at ef7 eo7 ea7 hO7 s7
            have ea7 : G7 a1 = some (.lst (.int b :: restV d)) := ea7
            refine ⟨a1, _, _, rfl, .of ea7, fun p np => ⟨_, _, rfl, _, _, rfl, rfl, ?_⟩⟩
            have s8 : Same G7 (upd G7 p (.lst (restV d))) := same_upd np
            have ep8 : (upd G7 p (.lst (restV d))) p = some (.lst (restV d)) := upd_same
            generalize upd G7 p (.lst (restV d)) = G8 at s8 ep8
            have sH8 := s7.trans s8
            have ef8 := s8 _ _ ef7
            have eo8 := s8 _ _ eo7
            have hO8 := hO7.same s8
            have np_fo : p ≠ fo := fun z => by rw [z, ef7] at np; cases np
            -- found[r] = ..
            obtain ⟨rb, hrb⟩ : ∃ rb, rows[b]? = some rb := ⟨_, List.getElem?_eq_getElem hbl⟩
            obtain ⟨vb, hvb, tvb⟩ := hA.at (i := b) (d := rb.d) (by rw [List.getElem?_map, hrb]; rfl)
            obtain ⟨cb, yb, rfl, hScb, _⟩ := Rw.inv tvb
            have hwb : isWhl rows b = rb.isW := by unfold isWhl; rw [hrb]
            refine ⟨_, rfl, _, rfl, ar, xs, _, _, rfl, rfl, sH8.tsm _ _ hR, atI_nat hvb, cb, _, 0, _, rfl, rfl, sH8.tsm _ _ hScb, at0, rfl, _, rfl, ?_⟩
            cases hw : rb.isW with
            | true =>
              refine iteT1 (by rw [word_while]; exact hw) ⟨_, rfl, ?_⟩
              refine ⟨_, rfl, _, rfl, fo, _, _, _, rfl, rfl, ef8, ixNn (by rw [List.length_map, hfl]; exact hi), ?_⟩
              dsimp only
              rw [map_setN]
              have e1' : ((fd i).set i (some b)).set (d.getD b) (some (i + 1)) = fd (i + 1) := by
                rw [← e1, hwb, hw]
                rfl
              have hl1 : ((fd i).set i (some b)).length = rows.length := by rw [List.length_set, hfl]
              generalize (fd i).set i (some b) = fd1 at e1' hl1
              have ef9 : (upd G8 fo (.lst (fd1.map oV))) fo = some (.lst (fd1.map oV)) := upd_same
              have eo9 : (upd G8 fo (.lst (fd1.map oV))) o = some (.lst (as'.reverse.map V.ref)) := by rw [upd_ne (Ne.symm nfo_o)]; exact eo8
              have ep9 : (upd G8 fo (.lst (fd1.map oV))) p = some (.lst (restV d)) := by rw [upd_ne np_fo]; exact ep8
              have hO9 : Opn H (upd G8 fo (.lst (fd1.map oV))) fo o as' st' := hO8.other hO8.out_fo
              have s9 : Same H (upd G8 fo (.lst (fd1.map oV))) := same_at hfo sH8
              generalize upd G8 fo (.lst (fd1.map oV)) = G9 at ef9 eo9 ep9 hO9 s9
              refine ⟨_, rfl, _, _, rfl, rfl, _, rfl, _, rfl, Nat.zero_le _, fun c9 nc9 => ?_⟩
              have s10 : Same G9 (upd G9 c9 (.lst [])) := same_upd nc9
              refine ⟨.list (restD d), .list [], .lst (.of (s10 _ _ ep9)) (rest_tp d).dp, .lst (.of upd_same) .nil, rest_shaped d, shaped_nilL, _, rfl, ?_⟩
              generalize upd G9 c9 (.lst []) = G10 at s10
              have fin : ∀ k, k = d.getD b → (Same H (upd G10 fo (.lst ((fd1.set k (some (i + 1))).map oV))) ∧ (upd G10 fo (.lst ((fd1.set k (some (i + 1))).map oV))) fo = some (.lst ((fd (i + 1)).map oV)) ∧
                  (∃ as, (upd G10 fo (.lst ((fd1.set k (some (i + 1))).map oV))) o = some (.lst (as.reverse.map V.ref)) ∧ Opn H (upd G10 fo (.lst ((fd1.set k (some (i + 1))).map oV))) fo o as (st (i + 1)))) := fun k hk => by
                refine ⟨same_at hfo (s9.trans s10), by rw [upd_same, hk, e1'], as', ?_, ?_⟩
                · rw [upd_ne (Ne.symm nfo_o)]
                  exact s10 _ _ eo9
                · rw [← e2]
                  exact (hO9.same s10).other hO9.out_fo
              cases d with
              | none =>
                refine iteF1 (b := !PyData.eqv (.list (restD none)) (.list [])) (by rw [eqvL_nil]; rfl) ⟨_, rfl, fo, _, _, _, rfl, rfl, s10 _ _ ef9, ixNn (by rw [List.length_map, hl1]; exact hbl), ?_⟩
                dsimp only
                rw [map_setS]
                obtain ⟨f1, f2, f3⟩ := fin b rfl
                exact ⟨f1, f2, f3, _, _, _, _, rfl⟩
              | some e =>
                refine iteT1 (b := !PyData.eqv (.list (restD (some e))) (.list [])) (by rw [eqvL_nil]; rfl) ⟨_, rfl, p, _, 0, _, rfl, rfl, SqL.of (s10 _ _ ep9), at0, fo, _, _, _, rfl, rfl, s10 _ _ ef9, ixNn (by rw [List.length_map, hl1]; exact hdl e rfl), ?_⟩
                dsimp only
                rw [map_setS]
                obtain ⟨f1, f2, f3⟩ := fin e rfl
                exact ⟨f1, f2, f3, _, _, _, _, rfl⟩
            | false =>
              refine iteF1 (by rw [word_while]; exact hw) ⟨_, rfl, _, _, rfl, rfl, ?_⟩
              refine ⟨_, rfl, _, rfl, fo, _, _, _, rfl, rfl, ef8, ixNn (by rw [List.length_map, hfl]; exact hi), ?_⟩
              dsimp only
              rw [map_setS]
              have e1' : ((fd i).set i (some (i + 1))).set (d.getD b) (some (i + 1)) = fd (i + 1) := by
                rw [← e1, hwb, hw]
                rfl
              have hl1 : ((fd i).set i (some (i + 1))).length = rows.length := by rw [List.length_set, hfl]
              generalize (fd i).set i (some (i + 1)) = fd1 at e1' hl1
              have ef9 : (upd G8 fo (.lst (fd1.map oV))) fo = some (.lst (fd1.map oV)) := upd_same
              have eo9 : (upd G8 fo (.lst (fd1.map oV))) o = some (.lst (as'.reverse.map V.ref)) := by rw [upd_ne (Ne.symm nfo_o)]; exact eo8
              have ep9 : (upd G8 fo (.lst (fd1.map oV))) p = some (.lst (restV d)) := by rw [upd_ne np_fo]; exact ep8
              have hO9 : Opn H (upd G8 fo (.lst (fd1.map oV))) fo o as' st' := hO8.other hO8.out_fo
              have s9 : Same H (upd G8 fo (.lst (fd1.map oV))) := same_at hfo sH8
              generalize upd G8 fo (.lst (fd1.map oV)) = G9 at ef9 eo9 ep9 hO9 s9
              refine ⟨_, rfl, _, _, rfl, rfl, _, rfl, _, rfl, Nat.zero_le _, fun c9 nc9 => ?_⟩
              have s10 : Same G9 (upd G9 c9 (.lst [])) := same_upd nc9
              refine ⟨.list (restD d), .list [], .lst (.of (s10 _ _ ep9)) (rest_tp d).dp, .lst (.of upd_same) .nil, rest_shaped d, shaped_nilL, _, rfl, ?_⟩
              generalize upd G9 c9 (.lst []) = G10 at s10
              have fin : ∀ k, k = d.getD b → (Same H (upd G10 fo (.lst ((fd1.set k (some (i + 1))).map oV))) ∧ (upd G10 fo (.lst ((fd1.set k (some (i + 1))).map oV))) fo = some (.lst ((fd (i + 1)).map oV)) ∧
                  (∃ as, (upd G10 fo (.lst ((fd1.set k (some (i + 1))).map oV))) o = some (.lst (as.reverse.map V.ref)) ∧ Opn H (upd G10 fo (.lst ((fd1.set k (some (i + 1))).map oV))) fo o as (st (i + 1)))) := fun k hk => by
                refine ⟨same_at hfo (s9.trans s10), by rw [upd_same, hk, e1'], as', ?_, ?_⟩
                · rw [upd_ne (Ne.symm nfo_o)]
                  exact s10 _ _ eo9
                · rw [← e2]
                  exact (hO9.same s10).other hO9.out_fo
              cases d with
              | none =>
                refine iteF1 (b := !PyData.eqv (.list (restD none)) (.list [])) (by rw [eqvL_nil]; rfl) ⟨_, rfl, fo, _, _, _, rfl, rfl, s10 _ _ ef9, ixNn (by rw [List.length_map, hl1]; exact hbl), ?_⟩
                dsimp only
                rw [map_setS]
                obtain ⟨f1, f2, f3⟩ := fin b rfl
                exact ⟨f1, f2, f3, _, _, _, _, rfl⟩
              | some e =>
                refine iteT1 (b := !PyData.eqv (.list (restD (some e))) (.list [])) (by rw [eqvL_nil]; rfl) ⟨_, rfl, p, _, 0, _, rfl, rfl, SqL.of (s10 _ _ ep9), at0, fo, _, _, _, rfl, rfl, s10 _ _ ef9, ixNn (by rw [List.length_map, hl1]; exact hdl e rfl), ?_⟩
                dsimp only
                rw [map_setS]
                obtain ⟨f1, f2, f3⟩ := fin e rfl
                exact ⟨f1, f2, f3, _, _, _, _, rfl⟩
          · refine iteF1 (by rw [word_end]; exact Bool.eq_false_iff.mpr hnd) ?_
            have hst2 : some (fd i, st i) = some (fd (i + 1), st (i + 1)) := by
              cases row with
              | ifr e => exact absurd rfl hop
              | whl e => exact absurd rfl hop
              | els => exact absurd rfl hel
              | nd => exact absurd rfl hnd
              | set x e => exact hst
              | call x g as => exact hst
              | ret e => exact hst
            injection hst2 with hst2
            injection hst2 with e1 e2
            exact ⟨sG5, by rw [← e1]; exact efG5, ⟨as, eoG5, by rw [← e2]; exact hOG5⟩, _, _, _, _, rfl⟩
    · obtain ⟨sm, ef, ⟨as, eo, hO⟩, y3, y4, y5, y6, rfl⟩ := p4
      rw [hlx, fdn] at ef
      refine ⟨_, rfl, fo, _, rfl, .inl ⟨.of ef, fun l nl => ?_⟩⟩
      have sl : Same H4 (upd H4 l (.tup (js.map oV))) := same_upd nl
      exact q _ _ (sm.trans sl) (.tup (.of upd_same) (tpAll_o js))
end
end B9

/-! The law's own checks of jumps. -/
namespace B9
open PySem PySem.Spec PyProof.Rows L2

def Rw.opn (r : Rw) : Bool := r.opens || r.isE
def Rw.jmp (r : Rw) : Bool := r.opens || r.isE || r.isN
theorem word_jmp {r : Rw} : inV (.str r.word) [.str "if", .str "while", .str "else", .str "end"] = r.jmp := by
  cases r with
  | set x e => exact (by decide +kernel : inV (.str ("set" : Str)) [.str "if", .str "while", .str "else", .str "end"] = false)
  | ifr e => exact (by decide +kernel : inV (.str ("if" : Str)) [.str "if", .str "while", .str "else", .str "end"] = true)
  | els => exact (by decide +kernel : inV (.str ("else" : Str)) [.str "if", .str "while", .str "else", .str "end"] = true)
  | whl e => exact (by decide +kernel : inV (.str ("while" : Str)) [.str "if", .str "while", .str "else", .str "end"] = true)
  | nd => exact (by decide +kernel : inV (.str ("end" : Str)) [.str "if", .str "while", .str "else", .str "end"] = true)
  | call x g as => exact (by decide +kernel : inV (.str ("call" : Str)) [.str "if", .str "while", .str "else", .str "end"] = false)
  | ret e => exact (by decide +kernel : inV (.str ("return" : Str)) [.str "if", .str "while", .str "else", .str "end"] = false)
theorem word_opn {r : Rw} : inV (.str r.word) [.str "if", .str "while", .str "else"] = r.opn := by
  cases r with
  | set x e => exact (by decide +kernel : inV (.str ("set" : Str)) [.str "if", .str "while", .str "else"] = false)
  | ifr e => exact (by decide +kernel : inV (.str ("if" : Str)) [.str "if", .str "while", .str "else"] = true)
  | els => exact (by decide +kernel : inV (.str ("else" : Str)) [.str "if", .str "while", .str "else"] = true)
  | whl e => exact (by decide +kernel : inV (.str ("while" : Str)) [.str "if", .str "while", .str "else"] = true)
  | nd => exact (by decide +kernel : inV (.str ("end" : Str)) [.str "if", .str "while", .str "else"] = false)
  | call x g as => exact (by decide +kernel : inV (.str ("call" : Str)) [.str "if", .str "while", .str "else"] = false)
  | ret e => exact (by decide +kernel : inV (.str ("return" : Str)) [.str "if", .str "while", .str "else"] = false)
theorem word_en {r : Rw} : inV (.str r.word) [.str "else", .str "end"] = (r.isE || r.isN) := by
  cases r with
  | set x e => exact (by decide +kernel : inV (.str ("set" : Str)) [.str "else", .str "end"] = false)
  | ifr e => exact (by decide +kernel : inV (.str ("if" : Str)) [.str "else", .str "end"] = false)
  | els => exact (by decide +kernel : inV (.str ("else" : Str)) [.str "else", .str "end"] = true)
  | whl e => exact (by decide +kernel : inV (.str ("while" : Str)) [.str "else", .str "end"] = false)
  | nd => exact (by decide +kernel : inV (.str ("end" : Str)) [.str "else", .str "end"] = true)
  | call x g as => exact (by decide +kernel : inV (.str ("call" : Str)) [.str "else", .str "end"] = false)
  | ret e => exact (by decide +kernel : inV (.str ("return" : Str)) [.str "else", .str "end"] = false)

/-- what a row's jump must be -/
def Ins (rows : List Rw) (js : List (Option Nat)) (r t : Nat) : Prop := ∀ k row, r < k → k < t - 1 → rows[k]? = some row → row.opn = true → ∃ u, js[k]? = some (some u) ∧ u < t
def JR (rows : List Rw) (js : List (Option Nat)) (r : Nat) : Rw → Prop
  | .ifr _ => ∃ t b rb, js[r]? = some (some t) ∧ r < t ∧ t ≤ rows.length ∧ rows[t - 1]? = some rb ∧ (rb.isE || rb.isN) = true ∧ js[t - 1]? = some (some b) ∧ t ≤ b ∧ Ins rows js r t
  | .whl _ => ∃ t, js[r]? = some (some t) ∧ r < t ∧ t ≤ rows.length ∧ rows[t - 1]? = some .nd ∧ js[t - 1]? = some (some r) ∧ Ins rows js r t
  | .els => ∃ t i, js[r]? = some (some t) ∧ r < t ∧ t ≤ rows.length ∧ rows[t - 1]? = some .nd ∧ js[t - 1]? = some (some t) ∧ i < r ∧ js[i]? = some (some (r + 1)) ∧ Ins rows js r t
  | .nd => ∃ t, js[r]? = some (some t) ∧ t ≤ rows.length ∧ (t = r + 1 ∨ (t < r ∧ (∃ e, rows[t]? = some (.whl e)) ∧ js[t]? = some (some (r + 1))))
  | _ => js[r]? = some none
structure JOk (rows : List Rw) (js : List (Option Nat)) : Prop where
  run : JRun rows js
  len : js.length = rows.length
  at_ : ∀ r row, rows[r]? = some row → JR rows js r row

theorem oAt {js : List (Option Nat)} {r : Nat} {o : Option Nat} (h : js[r]? = some o) : (js.map oV)[r]? = some (oV o) := by
  rw [List.getElem?_map, h]
  rfl
theorem flat_o (js : List (Option Nat)) : (js.map oV).all flatV = true := by
  rw [List.all_eq_true]
  intro v hv
  obtain ⟨o, _, rfl⟩ := List.mem_map.mp hv
  cases o <;> rfl
theorem all_take {xs : List V} {n : Nat} (h : xs.all flatV = true) : (xs.take n).all flatV = true := by
  rw [List.all_eq_true] at h ⊢
  exact fun v hv => h v (List.mem_of_mem_take hv)
theorem inV_int {xs : List V} {i : Int} (h : V.int i ∈ xs) : inV (.int i) xs = true := by
  unfold inV
  rw [List.any_eq_true]
  exact ⟨_, h, beq_self_eq_true i⟩
theorem cutV_to {xs : List V} {r : Nat} (h : r ≤ xs.length) : cutV xs none (some (r : Int)) = xs.take r := by
  unfold cutV
  rw [HT.sIx_none, HT.sIx_nat, List.drop_zero, Nat.sub_zero, Nat.min_eq_left h]
theorem not_wholeR {n r : Nat} {A : Prop} (h : r < n) : ¬ (A ∧ HT.sIx n n (some (r : Int)) = n) := fun ⟨_, e⟩ => by
  rw [HT.sIx_nat] at e
  omega

section
variable {P : Program} {w : World} {K : PySem.W.Frag} {mg : Str → Option Value} {base : Heap}
def spER (K : PySem.W.Frag) : Sp := fun vs H Q _ => ∃ (v u : V) (rows : List Rw) (js : List (Option Nat)) (r : Nat) (row : Rw), vs = [v, u, .int r] ∧ Tp K H v (.tuple (rows.map Rw.d)) ∧ Tp K H u (.tuple (js.map oD)) ∧ js.length = rows.length ∧
  rows[r]? = some row ∧ JR rows js r row ∧ row.opn = true ∧ ∀ H', Same H H' → Q (.bl true) H'
theorem oInv {K : PySem.W.Frag} {H : Hp} {xs : List V} {js : List (Option Nat)} (h : TpAll K H xs (js.map oD)) : xs = js.map oV := by
  induction js generalizing xs with
  | nil => exact h.nil_inv
  | cons o r ih =>
    obtain ⟨v, vs, rfl, h1, h2⟩ := TpAll.cons_inv h
    rw [ih h2]
    cases o with
    | none => cases h1; rfl
    | some n => cases h1; rfl
theorem h__law_ends_right (D : Dfs w K mg) : Has P w K mg base 1 "_law_ends_right" (spER K) := by
  refine D.f__law_ends_right.has sc__law_ends_right (fun vs H Q E h => ?_) (fun f cdv A outer s H vs Q E hr h => ?_)
  · obtain ⟨v, u, rows, js, r, row, rfl, _⟩ := h
    rfl
  · obtain ⟨v, u, rows, js, r, row, rfl, hv, hu, hlj, hrow, hjr, hopn, q⟩ := h
    refine ⟨_, (pss_cons (ps_par (i := 3) (j := 4) (by rfl) sc__law_ends_right.nd rfl rfl (by decide) rfl rfl (pa_cons (pe_ix ix_tup (pv 1) (pv 2) (fun _ _ => rfl)) (pa_cons (pe_ix ix_tup (pe_ix ix_tup (pv 0) (pv 2) (fun _ _ => rfl)) pe_int (fun _ _ => rfl)) pa_nil)) (by rfl))
      (pss_cons (ps_par (i := 5) (j := 6) (by rfl) sc__law_ends_right.nd rfl rfl (by decide) rfl rfl (pa_cons (pe_ix ix_tup (pe_ix ix_tup (pv 0) (pe_op op_sub (pv 3) pe_int) (fun _ _ => rfl)) pe_int (fun _ _ => rfl)) (pa_cons (pe_ix ix_tup (pv 1) (pe_op op_sub (pv 3) pe_int) (fun _ _ => rfl)) pa_nil)) (by rfl))
      (pss_cons (ps_if (pt_cmpR op_eq (pv 4) pe_str (nomark _)) (pss_one (ps_ret (pe_and (pe_cmpR op_eq (pv 5) pe_str (nomark _)) (pe_one (pe_cmpR op_eq (pv 6) (pv 2) (nomark _)))))) pss_nil)
      (pss_cons (ps_if (pt_cmpR op_eq (pv 4) pe_str (nomark _)) (pss_one (ps_ret (pe_and (pe_cmpR op_in_seq (pv 5) (pe_tup (pa_cons pe_str (pa_cons pe_str pa_nil))) (by rfl)) (pe_one (pe_cmpR op_ge (pv 6) (pv 3) (nomark _)))))) pss_nil)
      (pss_one (ps_ret (pe_and (pe_cmpR op_eq (pv 5) pe_str (nomark _)) (pe_and (pe_cmpR op_eq (pv 6) (pv 3) (nomark _)) (pe_one (pe_cmpR op_in_seq (pe_op op_add (pv 2) pe_int) (pe_slice sl_tupA (pv 1) po_none (po_some (pv 2))) (by rfl))))))))))), ?_⟩
    obtain ⟨ar, xs, rfl, hR, hA⟩ := hv.tup_inv
    obtain ⟨aj, zs, rfl, hJ, hZ⟩ := hu.tup_inv
    obtain rfl := oInv hZ
    have hr0 : r < rows.length := (List.getElem?_eq_some_iff.mp hrow).1
    have rowAt : ∀ (k : Nat) (row' : Rw), rows[k]? = some row' → ∃ c ys, xs[k]? = some (V.ref c) ∧ SqT K H c (V.str row'.word :: ys) := fun k row' hk => by
      obtain ⟨vr, hvr, tr⟩ := hA.at (i := k) (d := row'.d) (by rw [List.getElem?_map, hk]; rfl)
      obtain ⟨c, ys, rfl, hSc, _⟩ := Rw.inv tr
      exact ⟨c, ys, hvr, hSc⟩
    obtain ⟨c, ys, hxr, hSc⟩ := rowAt r row hrow
    -- the jump, what stands ahead of it
    obtain ⟨t, b, rb, hjt, hrt, htn, hrb, hjb⟩ : ∃ t b rb, js[r]? = some (some t) ∧ r < t ∧ t ≤ rows.length ∧ rows[t - 1]? = some rb ∧ js[t - 1]? = some (some b) := by
      cases row with
      | ifr e => obtain ⟨t, b, rb, h1, h2, h3, h4, _, h6, _⟩ := hjr; exact ⟨t, b, rb, h1, h2, h3, h4, h6⟩
      | whl e => obtain ⟨t, h1, h2, h3, h4, h5, _⟩ := hjr; exact ⟨t, _, _, h1, h2, h3, h4, h5⟩
      | els => obtain ⟨t, i, h1, h2, h3, h4, h5, _⟩ := hjr; exact ⟨t, _, _, h1, h2, h3, h4, h5⟩
      | _ => cases hopn
    obtain ⟨cb, yb, hxb, hScb⟩ := rowAt (t - 1) rb hrb
    have et : ((t : Nat) : Int) - 1 = ((t - 1 : Nat) : Int) := by omega
    refine ⟨_, rfl, _, rfl, aj, _, _, _, rfl, rfl, hJ, atI_nat (oAt hjt), _, rfl, _, rfl, ar, xs, _, _, rfl, rfl, hR, atI_nat hxr, c, _, 0, _, rfl, rfl, hSc, at0, _, _, rfl, ?_⟩
    have hxb' : atI xs (((t : Nat) : Int) - 1) = some (.ref cb) := by rw [et]; exact atI_nat hxb
    have hjb' : atI (js.map oV) (((t : Nat) : Int) - 1) = some (.int b) := by rw [et]; exact atI_nat (oAt hjb)
    refine ⟨_, rfl, _, rfl, _, _, rfl, rfl, ar, xs, _, _, rfl, rfl, hR, hxb', cb, _, 0, _, rfl, rfl, hScb, at0, _, rfl, _, rfl, _, _, rfl, rfl, aj, _, _, _, rfl, rfl, hJ, hjb', _, _, rfl, ?_⟩
    cases row with
    | whl e =>
      obtain ⟨t', h1, _, _, h4, h5, _⟩ := hjr
      obtain rfl : t' = t := by rw [hjt] at h1; cases h1; rfl
      obtain rfl : rb = .nd := by rw [hrb] at h4; cases h4; rfl
      obtain rfl : b = r := by rw [hjb] at h5; cases h5; rfl
      refine ⟨_, rfl, rfl, _, rfl, iteT1 (b := decide (V.str ("while" : Str) = V.str "while")) (by decide +kernel) ?_⟩
      refine ⟨_, rfl, rfl, _, rfl, iteT1 (b := decide (V.str ("end" : Str) = V.str "end")) (by decide +kernel) ?_⟩
      refine ⟨_, rfl, _, rfl, rfl, ?_⟩
      have e1 : decide (V.int (b : Nat) = V.int (b : Nat)) = true := decide_eq_true rfl
      show Q (.bl (decide (V.int (b : Nat) = V.int (b : Nat)))) H
      rw [e1]
      exact q _ (Same.refl _)
    | ifr e =>
      obtain ⟨t', b', rb', h1, _, _, h4, hen, h5, htb, _⟩ := hjr
      obtain rfl : t' = t := by rw [hjt] at h1; cases h1; rfl
      obtain rfl : rb' = rb := by rw [hrb] at h4; cases h4; rfl
      obtain rfl : b' = b := by rw [hjb] at h5; cases h5; rfl
      refine ⟨_, rfl, rfl, _, rfl, iteF1 (b := decide (V.str ("if" : Str) = V.str "while")) (by decide +kernel) ?_⟩
      refine ⟨_, rfl, rfl, _, rfl, iteT1 (b := decide (V.str ("if" : Str) = V.str "if")) (by decide +kernel) ?_⟩
      refine ⟨_, rfl, len2_line, fun c2 nc2 => ?_⟩
      have s2 : Same H (upd H c2 (.tup [.str "else", .str "end"])) := same_upd nc2
      refine ⟨c2, _, rfl, .inr (.of upd_same), rfl, rfl, _, rfl, iteT1 (by rw [word_en]; exact hen) ?_⟩
      refine ⟨_, rfl, _, rfl, _, _, rfl, rfl, ?_⟩
      have e1 : decide ((t' : Int) ≤ (b' : Nat)) = true := decide_eq_true (by omega)
      show Q (.bl (decide ((t' : Int) ≤ (b' : Nat)))) _
      rw [e1]
      exact q _ s2
    | els =>
      obtain ⟨t', i, h1, _, _, h4, h5, hi, hji, _⟩ := hjr
      obtain rfl : t' = t := by rw [hjt] at h1; cases h1; rfl
      obtain rfl : rb = .nd := by rw [hrb] at h4; cases h4; rfl
      obtain rfl : b = t' := by rw [hjb] at h5; cases h5; rfl
      refine ⟨_, rfl, rfl, _, rfl, iteF1 (b := decide (V.str ("else" : Str) = V.str "while")) (by decide +kernel) ?_⟩
      refine ⟨_, rfl, rfl, _, rfl, iteF1 (b := decide (V.str ("else" : Str) = V.str "if")) (by decide +kernel) ?_⟩
      refine ⟨_, rfl, rfl, _, rfl, iteT1 (b := decide (V.str ("end" : Str) = V.str "end")) (by decide +kernel) ?_⟩
      refine ⟨_, rfl, _, rfl, rfl, _, rfl, iteT1 (b := decide (V.int (b : Nat) = V.int (b : Nat))) (decide_eq_true rfl) ?_⟩
      have hjl : r < (js.map oV).length := by rw [List.length_map, hlj]; exact hr0
      refine ⟨_, rfl, _, _, rfl, rfl, _, rfl, _, rfl, r, rfl, aj, _, rfl, hJ, (fun z => absurd z (not_wholeR hjl)), fun _ c2 nc2 => ?_⟩
      rw [cutV_to (Nat.le_of_lt hjl)]
      have s2 : Same H (upd H c2 (.tup ((js.map oV).take r))) := same_upd nc2
      refine ⟨c2, _, rfl, .inr (.of upd_same), rfl, all_take (flat_o js), ?_⟩
      have hm : V.int ((r : Nat) + 1) ∈ (js.map oV).take r := by
        rw [oV_succ]
        have h7 : ((js.map oV).take r)[i]? = some (oV (some (r + 1))) := by
          rw [List.getElem?_take_of_lt hi]
          exact oAt hji
        exact List.mem_of_getElem? h7
      have e1 := inV_int hm
      show Q (.bl (inV (V.int ((r : Nat) + 1)) ((js.map oV).take r))) _
      rw [e1]
      exact q _ s2
    | _ => cases hopn
/-! ### _law_jumps_right -/
theorem len4_line : 4 ≤ sizeLine := by decide +kernel
def spJR (K : PySem.W.Frag) : Sp := fun vs H Q _ => ∃ (v : V) (rows : List Rw) (js : List (Option Nat)), vs = [v] ∧ Tp K H v (.tuple (rows.map Rw.d)) ∧ JOk rows js ∧ rows.length ≤ 1000 ∧ ∀ H', Same H H' → Q (.bl true) H'
theorem JR.none {rows : List Rw} {js : List (Option Nat)} {r : Nat} {row : Rw} (h : JR rows js r row) (hj : row.jmp = false) : js[r]? = some none := by
  cases row <;> first | exact h | cases hj
theorem JR.to {rows : List Rw} {js : List (Option Nat)} {r : Nat} {row : Rw} (h : JR rows js r row) (hj : row.jmp = true) : ∃ t, js[r]? = some (some t) ∧ t ≤ rows.length ∧ (row.isN = false → r < t) := by
  cases row with
  | ifr e => obtain ⟨t, b, rb, h1, h2, h3, _⟩ := h; exact ⟨t, h1, h3, fun _ => h2⟩
  | whl e => obtain ⟨t, h1, h2, h3, _⟩ := h; exact ⟨t, h1, h3, fun _ => h2⟩
  | els => obtain ⟨t, i, h1, h2, h3, _⟩ := h; exact ⟨t, h1, h3, fun _ => h2⟩
  | nd => obtain ⟨t, h1, h2, _⟩ := h; exact ⟨t, h1, h2, fun z => by cases z⟩
  | _ => cases hj
theorem h__law_jumps_right (D : Dfs w K mg) : Has P w K mg base 2 "_law_jumps_right" (spJR K) := by
  refine D.f__law_jumps_right.has sc__law_jumps_right (fun vs H Q E h => ?_) (fun f cdv A outer s H vs Q E hr h => ?_)
  · obtain ⟨v, rows, js, rfl, _⟩ := h
    rfl
  · obtain ⟨v, rows, js, rfl, hv, hj, hlen, q⟩ := h
    refine ⟨_, (pss_cons (ps_par (i := 1) (j := 2) (by rfl) sc__law_jumps_right.nd rfl rfl (by decide) rfl rfl (pa_cons (pc (h_jumps_of D) hr (pa_cons (pv 0) pa_nil)) (pa_cons (pe_callB call_len (by rfl) D.b_len (by decide +kernel) (pa_cons (pv 0) pa_nil)) pa_nil)) (by rfl))
      (pss_cons (ps_if (pt_cmpR op_ne (pe_callB call_len (by rfl) D.b_len (by decide +kernel) (pa_cons (pv 1) pa_nil)) (pv 2) (nomark _)) (pss_one (ps_ret pe_bl)) pss_nil)
      (pss_cons (ps_for PassesOwn.never rfl (pi_range1 (by rfl) D.b_range (pa_cons (pv 2) pa_nil)) (pg_name (i := 3) sc__law_jumps_right.nd rfl (.inl rfl)) (pss_cons (ps_par (i := 4) (j := 5) (by rfl) sc__law_jumps_right.nd rfl rfl (by decide) rfl rfl (pa_cons (pe_ix ix_tup (pe_ix ix_tup (pv 0) (pv 3) (fun _ _ => rfl)) pe_int (fun _ _ => rfl)) (pa_cons (pe_ix ix_tup (pv 1) (pv 3) (fun _ _ => rfl)) pa_nil)) (by rfl))
      (pss_cons (ps_if (pt_cmpR op_eq (pe_cmpR op_isN (pv 5) pe_non (nomark _)) (pe_cmpR op_in_seq (pv 4) (pe_tup (pa_cons pe_str (pa_cons pe_str (pa_cons pe_str (pa_cons pe_str pa_nil))))) (by rfl)) (nomark _)) (pss_one (ps_ret pe_bl)) pss_nil)
      (pss_cons (ps_if (PW.pt (pw_and (pt_cmpR op_notN (pv 5) pe_non (nomark _)) (pw_and1 (PW.pt (pw_or (pt_not (pt_chain op_le op_le pe_int (pv 5) (pv 2))) (pw_or1 (PW.pt (pw_and (pt_cmpR op_ne (pv 4) pe_str (nomark _)) (pw_and1 (pt_cmpR op_le (pv 5) (pv 3) (nomark _))))))))))) (pss_one (ps_ret pe_bl)) pss_nil)
      (pss_cons (ps_if (PW.pt (pw_and (pt_cmpR op_eq (pv 4) pe_str (nomark _)) (pw_and (pt_cmpR op_ne (pv 5) (pe_op op_add (pv 3) pe_int) (nomark _)) (pw_and1 (PW.pt (pw_or (pt_cmpR op_ge (pv 5) (pv 3) (nomark _)) (pw_or (pt_cmpR op_ne (pe_ix ix_tup (pe_ix ix_tup (pv 0) (pv 5) (fun _ _ => rfl)) pe_int (fun _ _ => rfl)) pe_str (nomark _)) (pw_or1 (pt_cmpR op_ne (pe_ix ix_tup (pv 1) (pv 5) (fun _ _ => rfl)) (pe_op op_add (pv 3) pe_int) (nomark _)))))))))) (pss_one (ps_ret pe_bl)) pss_nil)
      (pss_one (ps_if (PW.pt (pw_and (pt_cmpR op_in_seq (pv 4) (pe_tup (pa_cons pe_str (pa_cons pe_str (pa_cons pe_str pa_nil)))) (by rfl)) (pw_and1 (pt_not (pt_val (pc (h__law_ends_right D) hr (pa_cons (pv 0) (pa_cons (pv 1) (pa_cons (pv 3) pa_nil))))))))) (pss_one (ps_ret pe_bl)) pss_nil)))))))
      (pss_one (ps_ret pe_bl))))), ?_⟩
    refine ⟨_, rfl, _, rows, js, rfl, hv, hj.run, hlen, fun u H1 s1 tu => ?_⟩
    obtain ⟨ar, xs, rfl, hR0, hA0⟩ := hv.tup_inv
    have hR := s1.tsm _ _ hR0
    have hA := hA0.mono s1.tsm
    obtain ⟨aj, zs, rfl, hJ, hZ⟩ := tu.tup_inv
    obtain rfl := oInv hZ
    have hlx : xs.length = rows.length := hA0.map_len
    have hljs : (js.map oV).length = rows.length := by rw [List.length_map, hj.len]
    refine ⟨_, rfl, _, rows.length, rfl, .inr ⟨_, hR, hlx.symm⟩, _, _, rfl, ?_⟩
    refine ⟨_, rfl, _, rows.length, rfl, .inr ⟨_, hJ, hljs.symm⟩, _, rfl, rfl, _, rfl, iteF1 (b := !decide (V.int (rows.length : Nat) = V.int (rows.length : Nat))) (by rw [decide_eq_true rfl]; rfl) ?_⟩
    refine ⟨_, rfl, _, rfl, by omega, by omega, ?_⟩
    refine for_range (lo := 0) (n := rows.length) (fun i σ H' => Same H1 H' ∧ ∃ y3 y4 y5, σ = [some (.ref ar), some (.ref aj), some (.int rows.length), y3, y4, y5]) ⟨Same.refl _, none, none, none, rfl⟩ (fun i σ H2 hi pp => ?_) (fun σ H2 pp => ?_)
    · obtain ⟨s2, y3, y4, y5, rfl⟩ := pp
      rw [show (0 : Int) + (i : Nat) = (i : Nat) by omega]
      obtain ⟨row, hrow⟩ : ∃ row, rows[i]? = some row := ⟨_, List.getElem?_eq_getElem hi⟩
      have hjr := hj.at_ i row hrow
      have rowAt : ∀ (k : Nat) (row' : Rw), rows[k]? = some row' → ∃ c ys, xs[k]? = some (V.ref c) ∧ SqT K H1 c (V.str row'.word :: ys) := fun k row' hk => by
        obtain ⟨vr, hvr, tr⟩ := hA.at (i := k) (d := row'.d) (by rw [List.getElem?_map, hk]; rfl)
        obtain ⟨c, ys, rfl, hSc, _⟩ := Rw.inv tr
        exact ⟨c, ys, hvr, hSc⟩
      obtain ⟨c, ys, hxr, hSc⟩ := rowAt i row hrow
      obtain ⟨o, ho⟩ : ∃ o, js[i]? = some o := ⟨_, List.getElem?_eq_getElem (by rw [hj.len]; exact hi)⟩
      refine ⟨_, rfl, _, rfl, ar, xs, _, _, rfl, rfl, s2.tsm _ _ hR, atI_nat hxr, c, _, 0, _, rfl, rfl, s2.tsm _ _ hSc, at0, _, rfl, _, rfl, aj, _, _, _, rfl, rfl, s2.tsm _ _ hJ, atI_nat (oAt ho), _, _, rfl, ?_⟩
      -- (to is None) == (word in ..)
      refine ⟨_, rfl, rfl, _, rfl, len4_line, fun c3 nc3 => ?_⟩
      have s3 : Same H2 (upd H2 c3 (.tup [.str "if", .str "while", .str "else", .str "end"])) := same_upd nc3
      refine ⟨c3, _, rfl, .inr (.of upd_same), rfl, rfl, rfl, _, rfl, ?_⟩
      generalize upd H2 c3 (.tup [.str "if", .str "while", .str "else", .str "end"]) = H3 at s3
      have s13 := s2.trans s3
      cases hjm : row.jmp with
      | false =>
        have hon : o = Option.none := by
          have := hjr.none hjm
          rw [ho] at this
          cases this
          rfl
        subst hon
        refine iteF1 (b := decide (V.bl (decide (V.non = V.non)) = V.bl (inV (.str row.word) [.str "if", .str "while", .str "else", .str "end"]))) (by rw [word_jmp, hjm]; decide +kernel) ?_
        have hN : row.isN = false := by cases row <;> first | rfl | cases hjm
        have hO : row.opn = false := by cases row <;> first | rfl | cases hjm
        refine ⟨_, rfl, rfl, _, rfl, iteF1 (b := !decide (V.non = V.non)) (by decide +kernel) (iteF ?_)⟩
        refine ⟨_, rfl, rfl, _, rfl, iteF1 (b := decide (V.str row.word = V.str "end")) (by rw [word_end]; exact hN) (iteF ?_)⟩
        refine ⟨_, rfl, len3_line, fun c4 nc4 => ?_⟩
        have s4 : Same H3 (upd H3 c4 (.tup [.str "if", .str "while", .str "else"])) := same_upd nc4
        exact ⟨c4, _, rfl, .inr (.of upd_same), rfl, rfl, _, rfl, iteF1 (b := inV (.str row.word) [.str "if", .str "while", .str "else"]) (by rw [word_opn]; exact hO) (iteF ⟨s13.trans s4, _, _, _, rfl⟩)⟩
      | true =>
        obtain ⟨t, ht, htn, hrt⟩ := hjr.to hjm
        obtain rfl : o = some t := by rw [ho] at ht; cases ht; rfl
        refine iteF1 (b := decide (V.bl (decide (V.int (t : Nat) = V.non)) = V.bl (inV (.str row.word) [.str "if", .str "while", .str "else", .str "end"]))) (by rw [word_jmp, hjm, decide_eq_false (show ¬ V.int (t : Nat) = V.non by intro z; cases z)]; decide +kernel) ?_
        refine ⟨_, rfl, rfl, _, rfl, iteT1 (b := !decide (V.int (t : Nat) = V.non)) (by rw [decide_eq_false (show ¬ V.int (t : Nat) = V.non by intro z; cases z)]; rfl) ?_⟩
        refine ⟨_, rfl, _, _, rfl, rfl, _, rfl, iteT1 (b := decide ((0 : Int) ≤ (t : Nat))) (decide_eq_true (by omega)) ?_⟩
        refine ⟨_, rfl, _, _, rfl, rfl, _, rfl, ?_⟩
        refine iteF1 (b := !decide (((t : Nat) : Int) ≤ (rows.length : Nat))) (by rw [decide_eq_true (by omega)]; rfl) ?_
        cases hN : row.isN with
        | true =>
          obtain rfl : row = .nd := by cases row <;> first | rfl | cases hN
          refine ⟨_, rfl, rfl, _, rfl, iteF1 (b := !decide (V.str ("end" : Str) = V.str "end")) (by decide +kernel) (iteF ?_)⟩
          refine ⟨_, rfl, rfl, _, rfl, iteT1 (b := decide (V.str ("end" : Str) = V.str "end")) (by decide +kernel) ?_⟩
          refine ⟨_, rfl, _, rfl, _, _, rfl, rfl, rfl, _, rfl, ?_⟩
          refine (fun tail => ite2 (fun hc => ?_) (fun _ => iteF tail)) ?_
          · obtain ⟨t', h1, _, h3⟩ := hjr
            obtain rfl : t' = t := by rw [ho] at h1; cases h1; rfl
            rcases h3 with h3 | ⟨h3, ⟨e, h4⟩, h5⟩
            · subst h3
              exact absurd hc (by show ¬ (!decide (oV (some (i + 1)) = V.int ((i : Nat) + 1))) = true; rw [oV_succ, decide_eq_true rfl]; decide)
            · obtain ⟨cb, yb, hxb, hScb⟩ := rowAt t' _ h4
              refine ⟨_, rfl, _, rfl, _, _, rfl, rfl, _, rfl, iteF1 (b := decide (((i : Nat) : Int) ≤ (t' : Nat))) (decide_eq_false (by omega)) ?_⟩
              refine ⟨_, rfl, _, rfl, ar, xs, _, _, rfl, rfl, s13.tsm _ _ hR, atI_nat hxb, cb, _, 0, _, rfl, rfl, s13.tsm _ _ hScb, at0, rfl, _, rfl, iteF1 (b := !decide (V.str ("while" : Str) = V.str "while")) (by decide +kernel) ?_⟩
              refine ⟨_, rfl, _, rfl, aj, _, _, _, rfl, rfl, s13.tsm _ _ hJ, atI_nat (oAt h5), _, rfl, _, _, rfl, rfl, rfl, _, rfl, ?_⟩
              refine iteF1 (b := !decide (oV (some (i + 1)) = V.int ((i : Nat) + 1))) (by rw [oV_succ, decide_eq_true rfl]; rfl) tail
          · refine ⟨_, rfl, len3_line, fun c4 nc4 => ?_⟩
            have s4 : Same H3 (upd H3 c4 (.tup [.str "if", .str "while", .str "else"])) := same_upd nc4
            exact ⟨c4, _, rfl, .inr (.of upd_same), rfl, rfl, _, rfl, iteF1 (b := inV (.str (Rw.word .nd)) [.str "if", .str "while", .str "else"]) (by rw [word_opn]; rfl) (iteF ⟨s13.trans s4, _, _, _, rfl⟩)⟩
        | false =>
          have hO : row.opn = true := by cases row <;> first | rfl | (cases hN; done) | (cases hjm; done)
          refine ⟨_, rfl, rfl, _, rfl, iteT1 (b := !decide (V.str row.word = V.str "end")) (by rw [word_end, hN]; rfl) ?_⟩
          have hlt := hrt hN
          refine ⟨_, rfl, _, rfl, _, _, rfl, rfl, _, rfl, iteF1 (b := decide (((t : Nat) : Int) ≤ (i : Nat))) (decide_eq_false (by omega)) ?_⟩
          refine ⟨_, rfl, rfl, _, rfl, iteF1 (b := decide (V.str row.word = V.str "end")) (by rw [word_end]; exact hN) (iteF ?_)⟩
          refine ⟨_, rfl, len3_line, fun c4 nc4 => ?_⟩
          have s4 : Same H3 (upd H3 c4 (.tup [.str "if", .str "while", .str "else"])) := same_upd nc4
          refine ⟨c4, _, rfl, .inr (.of upd_same), rfl, rfl, _, rfl, iteT1 (b := inV (.str row.word) [.str "if", .str "while", .str "else"]) (by rw [word_opn]; exact hO) ?_⟩
          have s14 := s13.trans s4
          exact ⟨_, rfl, _, rfl, _, rfl, _, _, rows, js, i, row, rfl, (hv.mono s1.tsm).mono s14.tsm, tu.mono s14.tsm, hj.len, hrow, hjr, hO, fun H5 s5 => ⟨_, rfl, s14.trans s5, _, _, _, rfl⟩⟩
    · obtain ⟨s2, y3, y4, y5, rfl⟩ := pp
      exact q _ (s1.trans s2)
end
end B9

/-! The law's own check of blocks within blocks. -/
namespace B9
open PySem PySem.Spec PyProof.Rows L2

section
variable {P : Program} {w : World} {K : PySem.W.Frag} {mg : Str → Option Value} {base : Heap}
theorem JR.ins {rows : List Rw} {js : List (Option Nat)} {r t : Nat} {row : Rw} (h : JR rows js r row) (ho : row.opn = true) (ht : js[r]? = some (some t)) : Ins rows js r t := by
  cases row with
  | ifr e => obtain ⟨t', b, rb, h1, _, _, _, _, _, _, h8⟩ := h; rw [ht] at h1; cases h1; exact h8
  | whl e => obtain ⟨t', h1, _, _, _, _, h8⟩ := h; rw [ht] at h1; cases h1; exact h8
  | els => obtain ⟨t', i, h1, _, _, _, _, _, _, h8⟩ := h; rw [ht] at h1; cases h1; exact h8
  | _ => cases ho
theorem opn_jmp {row : Rw} (h : row.opn = true) : row.jmp = true ∧ row.isN = false := by
  cases row <;> first | exact ⟨rfl, rfl⟩ | (cases h; done)
theorem h__law_inside_right (D : Dfs w K mg) : Has P w K mg base 2 "_law_inside_right" (spJR K) := by
  refine D.f__law_inside_right.has sc__law_inside_right (fun vs H Q E h => ?_) (fun f cdv A outer s H vs Q E hr h => ?_)
  · obtain ⟨v, rows, js, rfl, _⟩ := h
    rfl
  · obtain ⟨v, rows, js, rfl, hv, hj, hlen, q⟩ := h
    refine ⟨_, (pss_cons (ps_set (i := 1) sc__law_inside_right.nd rfl (.inr rfl) (pc (h_jumps_of D) hr (pa_cons (pv 0) pa_nil)))
      (pss_cons (ps_for PassesOwn.never rfl (pi_range1 (by rfl) D.b_range (pa_cons (pe_callB call_len (by rfl) D.b_len (by decide +kernel) (pa_cons (pv 0) pa_nil)) pa_nil)) (pg_name (i := 2) sc__law_inside_right.nd rfl (.inr rfl)) (pss_one (ps_if (pt_cmpR op_in_seq (pe_ix ix_tup (pe_ix ix_tup (pv 0) (pv 2) (fun _ _ => rfl)) pe_int (fun _ _ => rfl)) (pe_tup (pa_cons pe_str (pa_cons pe_str (pa_cons pe_str pa_nil)))) (by rfl)) (pss_cons (ps_setLc (i := 3) (own := [("_law_k", 4)]) (tt := tTest (tOp (rIn K false) (tOp (rIxT K) (tOp (rIxT K) (tVar 0) (tVar 4)) (tC (.int 0))) (tTup (tCons (tC (.str "if")) (tCons (tC (.str "while")) (tCons (tC (.str "else")) tNil)))))) (te := tOp (rIxT K) (tVar 1) (tVar 4)) (by rfl) sc__law_inside_right.nd rfl rfl (sw_true rfl rfl rfl (by decide +kernel)) (pi_range2 (by rfl) D.b_range (pa_cons (pe_op op_add (pv 2) pe_int) (pa_cons (pe_op op_sub (pe_ix ix_tup (pv 1) (pv 2) (fun _ _ => rfl)) pe_int) pa_nil))) (blkOk_by (own := [("_law_k", 4)]) (N := N__law_inside_right) (sc := defScope s__law_inside_right) (by decide +kernel)) (fun _ _ _ _ _ => (pg_name (i := 4) sc__law_inside_right.nd rfl (Or.inl rfl))) (fun _ _ _ _ _ => (pts_one (pt_cmpR op_in_seq (pe_ix ix_tup (pe_ix ix_tup (pv 0) (pv 4) (fun _ _ => rfl)) pe_int (fun _ _ => rfl)) (pe_tup (pa_cons pe_str (pa_cons pe_str (pa_cons pe_str pa_nil)))) (by rfl)))) (fun _ _ _ _ _ => (pe_ix ix_tup (pv 1) (pv 4) (fun _ _ => rfl))))
      (pss_one (ps_if (pt_cmpR (op_neD hr.units) (pe_lc (own := [("_law_to", 5)]) (tt := tTest (tOp (rI0 fun i j => .bl (decide (j ≤ i))) (tVar 5) (tOp (rIxT K) (tVar 1) (tVar 2)))) (by rfl) sc__law_inside_right.nd (pi_list (pv 3)) (blkOk_by (own := [("_law_to", 5)]) (N := N__law_inside_right) (sc := defScope s__law_inside_right) (by decide +kernel)) (fun _ _ _ _ _ => (pg_name (i := 5) sc__law_inside_right.nd rfl (Or.inl rfl))) (fun _ _ _ _ _ => (pts_one (pt_cmpR op_ge (pv 5) (pe_ix ix_tup (pv 1) (pv 2) (fun _ _ => rfl)) (nomark _)))) (fun _ _ _ _ _ => (pv 5))) (pe_lst pa_nil) (nomark _)) (pss_one (ps_ret pe_bl)) pss_nil))) pss_nil)))
      (pss_one (ps_ret pe_bl)))), ?_⟩
    refine ⟨_, rfl, _, rows, js, rfl, hv, hj.run, hlen, fun u H1 s1 tu => ?_⟩
    obtain ⟨ar, xs, rfl, hR0, hA0⟩ := hv.tup_inv
    have hR := s1.tsm _ _ hR0
    have hA := hA0.mono s1.tsm
    obtain ⟨aj, zs, rfl, hJ, hZ⟩ := tu.tup_inv
    obtain rfl := oInv hZ
    have hlx : xs.length = rows.length := hA0.map_len
    have rowAt : ∀ (k : Nat) (row' : Rw), rows[k]? = some row' → ∃ c ys, xs[k]? = some (V.ref c) ∧ SqT K H1 c (V.str row'.word :: ys) := fun k row' hk => by
      obtain ⟨vr, hvr, tr⟩ := hA.at (i := k) (d := row'.d) (by rw [List.getElem?_map, hk]; rfl)
      obtain ⟨c, ys, rfl, hSc, _⟩ := Rw.inv tr
      exact ⟨c, ys, hvr, hSc⟩
    refine ⟨_, rfl, _, rows.length, rfl, .inr ⟨_, hR, hlx.symm⟩, _, rfl, by omega, by omega, ?_⟩
    refine for_range (lo := 0) (n := rows.length) (fun i σ H' => Same H1 H' ∧ ∃ y2 y3, σ = [some (.ref ar), some (.ref aj), y2, y3, none, none]) ⟨Same.refl _, none, none, rfl⟩ (fun i σ H2 hi pp => ?_) (fun σ H2 pp => ?_)
    · obtain ⟨s2, y2, y3, rfl⟩ := pp
      rw [show (0 : Int) + (i : Nat) = (i : Nat) by omega]
      obtain ⟨row, hrow⟩ : ∃ row, rows[i]? = some row := ⟨_, List.getElem?_eq_getElem hi⟩
      have hjr := hj.at_ i row hrow
      obtain ⟨c, ys, hxr, hSc⟩ := rowAt i row hrow
      refine ⟨_, rfl, _, rfl, ar, xs, _, _, rfl, rfl, s2.tsm _ _ hR, atI_nat hxr, c, _, 0, _, rfl, rfl, s2.tsm _ _ hSc, at0, len3_line, fun c4 nc4 => ?_⟩
      have s3 : Same H2 (upd H2 c4 (.tup [.str "if", .str "while", .str "else"])) := same_upd nc4
      refine ⟨c4, _, rfl, .inr (.of upd_same), rfl, rfl, _, rfl, ?_⟩
      generalize upd H2 c4 (.tup [.str "if", .str "while", .str "else"]) = H3 at s3
      have s13 := s2.trans s3
      refine ite2 (fun hc => ?_) (fun _ => ⟨s13, _, _, rfl⟩)
      have hO : row.opn = true := by
        have : inV (.str row.word) [.str "if", .str "while", .str "else"] = true := hc
        rwa [word_opn] at this
      obtain ⟨hjm, hN⟩ := opn_jmp hO
      obtain ⟨t, ht, htn, hrt⟩ := hjr.to hjm
      have hlt := hrt hN
      have hins := hjr.ins hO ht
      have hjt : atI (js.map oV) ((i : Nat) : Int) = some (.int t) := atI_nat (oAt ht)
      refine ⟨_, rfl, _, _, rfl, rfl, _, rfl, _, rfl, aj, _, _, _, rfl, rfl, s13.tsm _ _ hJ, hjt, _, _, rfl, rfl, _, _, rfl, by omega, fun Dn nD => ?_⟩
      refine walkR (lo := (i : Nat) + 1) (fun j H' => Same H3 H' ∧ ∃ ws, H' Dn = some (.lst ws) ∧ ws.length ≤ j ∧ ∀ y ∈ ws, ∃ u : Nat, y = .int u ∧ u < t) ⟨same_upd nD, [], upd_same, Nat.le_refl _, fun y hy => by cases hy⟩ (fun j H5 hjn p5 => ?_) (fun H5 p5 => ?_)
      · obtain ⟨s5, ws, ew, hwl, hw⟩ := p5
        rw [show ((i : Nat) : Int) + 1 + (j : Nat) = ((i + 1 + j : Nat) : Int) by omega]
        have hk : i + 1 + j < t - 1 := by omega
        obtain ⟨rk, hrk⟩ : ∃ rk, rows[i + 1 + j]? = some rk := ⟨_, List.getElem?_eq_getElem (by omega)⟩
        obtain ⟨ck, yk, hxk, hSk⟩ := rowAt _ rk hrk
        have s15 := s13.trans s5
        refine ⟨rfl, _, rfl, _, rfl, ar, xs, _, _, rfl, rfl, s15.tsm _ _ hR, atI_nat hxk, ck, _, 0, _, rfl, rfl, s15.tsm _ _ hSk, at0, len3_line, fun c6 nc6 => ?_⟩
        have s6 : Same H5 (upd H5 c6 (.tup [.str "if", .str "while", .str "else"])) := same_upd nc6
        refine ⟨c6, _, rfl, .inr (.of upd_same), rfl, rfl, _, rfl, ?_⟩
        generalize upd H5 c6 (.tup [.str "if", .str "while", .str "else"]) = H6 at s6
        refine ite2 (fun hc => ?_) (fun _ => ⟨s5.trans s6, ws, s6 _ _ ew, Nat.le_succ_of_le hwl, hw⟩)
        have hOk : rk.opn = true := by
          have : inV (.str rk.word) [.str "if", .str "while", .str "else"] = true := hc
          rwa [word_opn] at this
        obtain ⟨u, hu, hut⟩ := hins _ rk (by omega) hk hrk hOk
        refine ⟨_, rfl, _, rfl, aj, _, _, _, rfl, rfl, (s15.trans s6).tsm _ _ hJ, atI_nat (oAt hu), ws, s6 _ _ ew, small1000 (by omega), same_at nD (s5.trans s6), _, upd_same, ?_, ?_⟩
        · rw [List.length_append]
          exact Nat.succ_le_succ hwl
        · intro y hy
          rcases List.mem_append.mp hy with hy | hy
          · exact hw y hy
          · exact ⟨u, List.mem_singleton.mp hy, hut⟩
      · obtain ⟨s5, ws, ew, hwl, hw⟩ := p5
        have s15 := s13.trans s5
        refine ⟨_, rfl, Dn, rfl, ⟨_, .of ew⟩, fun D2 nD2 => ?_⟩
        have n2 : Dn ≠ D2 := ne_of_none ew nD2
        refine walkL (K := K) (a := Dn) (xs := ws) (fun j H' => Same H5 H' ∧ H' D2 = some (.lst [])) ⟨same_upd nD2, upd_same⟩ (fun j H' _ pp => .of (pp.1 _ _ ew)) (fun j y H6 hy p6 => ?_) (fun H6 p6 => ?_)
        · obtain ⟨u, rfl, hut⟩ := hw y (List.mem_of_getElem? hy)
          refine ⟨rfl, _, rfl, _, rfl, _, rfl, aj, _, _, _, rfl, rfl, (s15.trans p6.1).tsm _ _ hJ, hjt, _, _, rfl, rfl, _, rfl, iteF1 (b := decide ((t : Int) ≤ (u : Nat))) (decide_eq_false (by omega)) p6⟩
        · refine ⟨Nat.zero_le _, fun c7 nc7 => ?_⟩
          have s7 : Same H6 (upd H6 c7 (.lst [])) := same_upd nc7
          refine ⟨.list [], .list [], .lst (.of (s7 _ _ p6.2)) .nil, .lst (.of upd_same) .nil, shaped_nilL, shaped_nilL, _, rfl, ?_⟩
          exact iteF1 (b := !PyData.eqv (.list []) (.list [])) (by rw [eqvL_nil]; rfl) ⟨(s15.trans p6.1).trans s7, _, _, rfl⟩
    · obtain ⟨s2, y2, y3, rfl⟩ := pp
      exact q _ (s1.trans s2)
end
end B9

/-! The law's own check of a place. -/
namespace B9
open PySem PySem.Spec PyProof.Rows L2

theorem PgW.fn_cnt {p : Pg} {g : Str} {n : Nat} (h : p.cnt g = some n) : ∃ fg, p.fns.find? (fun f => decide (f.nm = g)) = some fg ∧ fg ∈ p.fns ∧ fg.nm = g ∧ fg.many = n := by
  unfold Pg.cnt at h
  cases hf : p.fns.find? (fun f => decide (f.nm = g)) with
  | none => rw [hf] at h; cases h
  | some fg =>
    rw [hf] at h
    cases h
    exact ⟨fg, rfl, List.mem_of_find?_eq_some hf, by simpa using List.find?_some hf, rfl⟩
theorem At.e_in {p : Pg} {x : Pl} {f : Fnc} {row : Rw} {e : Ex} (h : At p x f row e) : e ∈ row.parts := List.mem_of_getElem? h.part_at
theorem At.row_in {p : Pg} {x : Pl} {f : Fnc} {row : Rw} {e : Ex} (h : At p x f row e) : row ∈ f.rows := List.mem_of_getElem? h.row_at
theorem At.ok {p : Pg} {x : Pl} {f : Fnc} {row : Rw} {e : Ex} (h : At p x f row e) (hp : PgW p) : e.ok = true ∧ e.depth ≤ maxD ∧ e.fits f.names = true := by
  obtain ⟨h1, h2⟩ := Rw.ok_parts ((hp.fok f h.f_in).rok row h.row_in).1 e h.e_in
  refine ⟨h1, h2, ?_⟩
  have h3 := hp.fit f h.f_in row h.row_in
  have he := h.e_in
  cases row with
  | set z e' =>
    rcases List.mem_singleton.mp he with rfl
    simp only [rowFits, Bool.and_eq_true] at h3
    exact h3.2
  | ifr e' => rcases List.mem_singleton.mp he with rfl; exact h3
  | whl e' => rcases List.mem_singleton.mp he with rfl; exact h3
  | ret e' => rcases List.mem_singleton.mp he with rfl; exact h3
  | els => cases he
  | nd => cases he
  | call z g as =>
    simp only [rowFits, Bool.and_eq_true, List.all_eq_true] at h3
    exact h3.2 e he
theorem At.range {p : Pg} {x : Pl} {f : Fnc} {row : Rw} {e : Ex} (h : At p x f row e) (hp : PgW p) : ∃ r, rangeAt p f x.k row = some r ∧ r.1 ≤ r.2 := by
  have hf := hp.fok f h.f_in
  have h3 := hp.fit f h.f_in row h.row_in
  cases row with
  | set z e' =>
    simp only [rowFits, Bool.and_eq_true, decide_eq_true_eq] at h3
    cases hv : f.vars.find? (fun v => decide (v.x = z)) with
    | none =>
      rw [List.find?_eq_none] at hv
      obtain ⟨v, hm, rfl⟩ := List.mem_map.mp h3.1
      exact absurd (decide_eq_true rfl) (hv v hm)
    | some v =>
      refine ⟨(v.lo, v.hi), ?_, (hf.vars v (List.mem_of_find?_eq_some hv)).2⟩
      show (f.vars.find? fun v => decide (v.x = z)).map (fun v => (v.lo, v.hi)) = _
      rw [hv]
      rfl
  | ifr e' => exact ⟨_, rfl, by show (0 : Int) ≤ 1; decide⟩
  | whl e' => exact ⟨_, rfl, by show (0 : Int) ≤ 1; decide⟩
  | ret e' => exact ⟨_, rfl, hf.rng⟩
  | els => exact absurd h.e_in (by intro z; cases z)
  | nd => exact absurd h.e_in (by intro z; cases z)
  | call z g as =>
    simp only [rowFits, Bool.and_eq_true, decide_eq_true_eq] at h3
    obtain ⟨fg, h4, h5, h6, h7⟩ := PgW.fn_cnt h3.1.2
    have hk : x.k < as.length := (List.getElem?_eq_some_iff.mp h.part_at).1
    have hg := hp.fok fg h5
    have hkv : x.k < fg.vars.length := by have := hg.many; omega
    refine ⟨(fg.vars[x.k].lo, fg.vars[x.k].hi), ?_, (hg.vars _ (List.getElem_mem hkv)).2⟩
    show ((p.fns.find? fun f => decide (f.nm = g)).bind fun f' => f'.vars[x.k]?.map fun v => (v.lo, v.hi)) = _
    rw [h4]
    show (fg.vars[x.k]?.map fun v => (v.lo, v.hi)) = _
    rw [List.getElem?_eq_getElem hkv]
    rfl
theorem pairs0 {K : PySem.W.Frag} {H : Hp} : ∀ {ns : List Str} {ys : List V}, ys.length = ns.length →
    (∀ (j : Nat) (y : V) (n : Str), ys[j]? = some y → ns[j]? = some n → ∃ c, y = .ref c ∧ SqT K H c [.str n, .int 0]) →
    ∃ (ps : List Addr), ys = ps.map V.ref ∧ Paired (fun p kv => SqT K H p [kV kv.1, kv.2]) ps (ns.map fun n => ((Sum.inr n : Key), V.int 0))
  | [], [], _, _ => ⟨[], rfl, .nil⟩
  | [], _ :: _, h, _ => by simp at h
  | _ :: _, [], h, _ => by simp at h
  | n :: ns, y :: ys, hl, h => by
    obtain ⟨c, rfl, h1⟩ := h 0 y n rfl rfl
    obtain ⟨ps, e1, hp⟩ := pairs0 (ns := ns) (ys := ys) (Nat.succ.inj hl) fun j z m hz hm => h (j + 1) z m hz hm
    exact ⟨c :: ps, by rw [e1]; rfl, .cons h1 hp⟩
theorem shaped_strs {ns : List Str} (h : ∀ n ∈ ns, okNm n = true) : SeqAt.shaped (.tuple (ns.map .str)) = true := shapedT fun d hd => by
  obtain ⟨n, hn, rfl⟩ := List.mem_map.mp hd
  refine ⟨lay_str (h n hn), ?_⟩
  simp only [PyData.depth]
  omega
theorem eqv_self {d : PyData} (h : SeqAt.shaped d = true) : PyData.eqv d d = true := by
  unfold SeqAt.shaped at h
  rw [Bool.and_eq_true] at h
  exact SeqAt.eqv_refl d h.1
theorem neqv_self {d : PyData} (h : SeqAt.shaped d = true) : (!PyData.eqv d d) = false := by rw [eqv_self h]; rfl

/-- (low, high, 0, e) -/
def quad (lo hi : Int) (e : Ex) : PyData := .tuple [.int lo, .int hi, .int 0, e.d]
theorem quad_shaped {lo hi : Int} {e : Ex} (h : e.ok = true) (hd : e.depth ≤ maxD) : SeqAt.shaped (quad lo hi e) = true := shapedT fun d hdm => by
  simp only [List.mem_cons, List.not_mem_nil, or_false] at hdm
  rcases hdm with rfl | rfl | rfl | rfl
  · exact ⟨by simp only [PyData.canLay0], by simp only [PyData.depth]; omega⟩
  · exact ⟨by simp only [PyData.canLay0], by simp only [PyData.depth]; omega⟩
  · exact ⟨by simp only [PyData.canLay0], by simp only [PyData.depth]; omega⟩
  · exact ⟨Ex.lay h, by rw [Ex.dep]; exact Nat.le_trans hd (by decide)⟩
theorem tp_quad {K : PySem.W.Frag} {H : Hp} {c : Addr} {lo hi : Int} {v : V} {e : Ex} (h : SqT K H c [.int lo, .int hi, .int 0, v]) (t : Tp K H v e.d) : Tp K H (.ref c) (quad lo hi e) :=
  .tup h (.cons (.int _) (.cons (.int _) (.cons (.int _) (.cons t .nil))))
/-- one row's own range and its expression's place -/
theorem At.one {p : Pg} {x : Pl} {f : Fnc} {row : Rw} {e e' : Ex} (h : At p x f row e) (hr : row.parts = [e']) : x.k = 0 ∧ e' = e := by
  have h1 := h.part_at
  rw [hr] at h1
  cases hk : x.k with
  | zero => rw [hk] at h1; cases h1; exact ⟨rfl, rfl⟩
  | succ n => rw [hk] at h1; cases h1
theorem rng_shaped (r : Int × Int) : SeqAt.shaped (rngD r) = true := shapedT fun d hdm => by
  simp only [List.mem_cons, List.not_mem_nil, or_false] at hdm
  rcases hdm with rfl | rfl
  · exact ⟨by simp only [PyData.canLay0], by simp only [PyData.depth]; omega⟩
  · exact ⟨by simp only [PyData.canLay0], by simp only [PyData.depth]; omega⟩

section
variable {P : Program} {w : World} {K : PySem.W.Frag} {mg : Str → Option Value} {base : Heap}
def spPlR (K : PySem.W.Frag) : Sp := fun vs H Q _ => ∃ (v u : V) (p : Pg) (x : Pl), vs = [v, u] ∧ Tp K H v p.d ∧ PgW p ∧ Tp K H u x.d ∧ x ∈ p.places ∧ ∀ H', Same H H' → Q (.bl true) H'
theorem h__law_place_right (D : Dfs w K mg) : Has P w K mg base 24 "_law_place_right" (spPlR K) := by
  refine D.f__law_place_right.has sc__law_place_right (fun vs H Q E h => ?_) (fun f cdv A outer s H vs Q E hr h => ?_)
  · obtain ⟨v, u, p, x, rfl, _⟩ := h
    rfl
  · obtain ⟨v, u, p, x, rfl, hv, hp, hu, hx, q⟩ := h
    obtain ⟨fn, row, e, ha⟩ := Pg.mem_places.mp hx
    obtain ⟨rg, hrg, hlh⟩ := ha.range hp
    obtain ⟨eok, edp, eft⟩ := ha.ok hp
    have hfn := hp.fok fn ha.f_in
    have hnm : ∀ n ∈ fn.names, okNm n = true := fun n hn => by
      obtain ⟨v, hm, rfl⟩ := List.mem_map.mp hn
      exact (hfn.vars v hm).1
    have hX : Has P w K mg base 19 "is_expression" (spEx K maxD) := h_is_expression D maxD (by decide)
    have hv3 := hfn.vlen
    have hnl : fn.names.length = fn.vars.length := by unfold Fnc.names; rw [List.length_map]
    refine ⟨_, (pss_cons (ps_par3 (i := 2) (j := 3) (l := 4) (by rfl) sc__law_place_right.nd rfl rfl rfl (by decide) (by decide) (by decide) rfl rfl rfl (pa_cons (pc (h_function_of D) hr (pa_cons (pv 0) (pa_cons (pe_ix ix_tup (pv 1) pe_int (fun _ _ => rfl)) pa_nil))) (pa_cons (pc (h_names_at D) hr (pa_cons (pv 0) (pa_cons (pv 1) pa_nil))) (pa_cons (pc (h_expression_at D) hr (pa_cons (pv 0) (pa_cons (pv 1) pa_nil))) pa_nil))) (by rfl))
      (pss_cons (ps_if (PW.pt (pw_or (pt_not (pt_val (pc hX hr (pa_cons (pv 4) pa_nil)))) (pw_or (pt_not (pt_val (pc (h_fits D) hr (pa_cons (pv 3) (pa_cons (pv 4) pa_nil))))) (pw_or1 (pt_cmpR op_ne (pe_callB call_lenD (by rfl) D.b_len (by decide +kernel) (pa_cons (pe_callTy (call_dictP rfl) (by rfl) D.b_dict (by decide +kernel) (pa_cons (pe_lc (own := [("_law_name", 9)]) (by rfl) sc__law_place_right.nd (pi_tup (pv 3)) (blkOk_by (own := [("_law_name", 9)]) (N := N__law_place_right) (sc := defScope s__law_place_right) (by decide +kernel)) (fun _ _ _ _ _ => (pg_name (i := 9) sc__law_place_right.nd rfl (Or.inl rfl))) (fun _ _ _ _ _ => pts_nil) (fun _ _ _ _ _ => (pe_tup (pa_cons (pv 9) (pa_cons pe_int pa_nil))))) pa_nil)) pa_nil)) (pe_callB call_len (by rfl) D.b_len (by decide +kernel) (pa_cons (pv 3) pa_nil)) (nomark _)))))) (pss_one (ps_ret pe_bl)) pss_nil)
      (pss_cons (ps_if (PW.pt (pw_or (pt_cmpR (op_neD hr.units) (pv 3) (pe_callTy call_tuple_of (by rfl) D.b_tuple (by decide +kernel) (pa_cons (pe_lc (own := [("_law_own", 10)]) (te := tOp (rIxT K) (tVar 10) (tC (.int 0))) (by rfl) sc__law_place_right.nd (pi_tup (pe_ix ix_tup (pv 2) pe_int (fun _ _ => rfl))) (blkOk_by (own := [("_law_own", 10)]) (N := N__law_place_right) (sc := defScope s__law_place_right) (by decide +kernel)) (fun _ _ _ _ _ => (pg_name (i := 10) sc__law_place_right.nd rfl (Or.inl rfl))) (fun _ _ _ _ _ => pts_nil) (fun _ _ _ _ _ => (pe_ix ix_tup (pv 10) pe_int (fun _ _ => rfl)))) pa_nil)) (nomark _)) (pw_or1 (pt_cmpR (op_neD hr.units) (pe_lc (own := [("_law_name", 9)]) (by rfl) sc__law_place_right.nd (pi_tup (pv 3)) (blkOk_by (own := [("_law_name", 9)]) (N := N__law_place_right) (sc := defScope s__law_place_right) (by decide +kernel)) (fun _ _ _ _ _ => (pg_name (i := 9) sc__law_place_right.nd rfl (Or.inl rfl))) (fun _ _ _ _ _ => (pts_one (pt_not (pt_val (pc (h_is_name D) hr (pa_cons (pv 9) pa_nil)))))) (fun _ _ _ _ _ => (pv 9))) (pe_lst pa_nil) (nomark _))))) (pss_one (ps_ret pe_bl)) pss_nil)
      (pss_cons (ps_asg (pc (h_range_of D) hr (pa_cons (pv 0) (pa_cons (pv 1) pa_nil))) (pg_tup rfl (pgs_cons (pg_name (i := 5) sc__law_place_right.nd rfl (.inl rfl)) (pgs_cons (pg_name (i := 6) sc__law_place_right.nd rfl (.inl rfl)) pgs_nil))))
      (pss_cons (ps_set (i := 7) sc__law_place_right.nd rfl (.inl rfl) (pe_ix ix_tup (pe_ix ix_tup (pv 2) pe_int (fun _ _ => rfl)) (pe_ix ix_tup (pv 1) pe_int (fun _ _ => rfl)) (fun _ _ => rfl)))
      (pss_cons (ps_if (PW.pt (pw_or (pt_cmpR op_gt (pv 5) (pv 6) (nomark _)) (pw_or1 (pt_not (pt_val (pc (h_is_row D) hr (pa_cons (pv 7) pa_nil))))))) (pss_one (ps_ret pe_bl)) pss_nil)
      (pss_cons (ps_if (pt_cmpR op_in_seq (pe_ix ix_tup (pv 7) pe_int (fun _ _ => rfl)) (pe_tup (pa_cons pe_str (pa_cons pe_str pa_nil))) (by rfl)) (pss_one (ps_ret (pe_cmpR (op_eqD hr.units) (pe_tup (pa_cons (pv 5) (pa_cons (pv 6) (pa_cons (pe_ix ix_tup (pv 1) pe_int (fun _ _ => rfl)) (pa_cons (pe_ix ix_tup (pv 7) pe_int (fun _ _ => rfl)) pa_nil))))) (pe_tup (pa_cons pe_int (pa_cons pe_int (pa_cons pe_int (pa_cons (pv 4) pa_nil))))) (nomark _)))) pss_nil)
      (pss_cons (ps_if (pt_cmpR op_eq (pe_ix ix_tup (pv 7) pe_int (fun _ _ => rfl)) pe_str (nomark _)) (pss_one (ps_ret (pe_cmpR (op_eqD hr.units) (pe_tup (pa_cons (pv 5) (pa_cons (pv 6) (pa_cons (pe_ix ix_tup (pv 1) pe_int (fun _ _ => rfl)) (pa_cons (pe_ix ix_tup (pv 7) pe_int (fun _ _ => rfl)) pa_nil))))) (pe_tup (pa_cons (pe_ix ix_tup (pv 2) pe_int (fun _ _ => rfl)) (pa_cons (pe_ix ix_tup (pv 2) pe_int (fun _ _ => rfl)) (pa_cons pe_int (pa_cons (pv 4) pa_nil))))) (nomark _)))) pss_nil)
      (pss_cons (ps_if (pt_cmpR op_eq (pe_ix ix_tup (pv 7) pe_int (fun _ _ => rfl)) pe_str (nomark _)) (pss_one (ps_ret (pe_and (pe_cmpR (op_inT (rin65 hr (by decide))) (pe_tup (pa_cons (pe_ix ix_tup (pv 7) pe_int (fun _ _ => rfl)) (pa_cons (pv 5) (pa_cons (pv 6) pa_nil)))) (pe_ix ix_tup (pv 2) pe_int (fun _ _ => rfl)) (by rfl)) (pe_and (pe_cmpR op_eq (pe_ix ix_tup (pv 1) pe_int (fun _ _ => rfl)) pe_int (nomark _)) (pe_one (pe_cmpR (op_eqD hr.units) (pe_ix ix_tup (pv 7) pe_int (fun _ _ => rfl)) (pv 4) (nomark _))))))) pss_nil)
      (pss_cons (ps_set (i := 8) sc__law_place_right.nd rfl (.inl rfl) (pc (h_function_of D) hr (pa_cons (pv 0) (pa_cons (pe_ix ix_tup (pv 7) pe_int (fun _ _ => rfl)) pa_nil))))
      (pss_one (ps_ret (pe_and (pe_cmpR (op_eqD hr.units) (pe_slice sl_tupA (pe_ix ix_tup (pe_ix ix_tup (pv 8) pe_int (fun _ _ => rfl)) (pe_ix ix_tup (pv 1) pe_int (fun _ _ => rfl)) (fun _ _ => rfl)) (po_some pe_int) po_none) (pe_tup (pa_cons (pv 5) (pa_cons (pv 6) pa_nil))) (nomark _)) (pe_and (pe_cmpR op_lt (pe_ix ix_tup (pv 1) pe_int (fun _ _ => rfl)) (pe_ix ix_tup (pv 8) pe_int (fun _ _ => rfl)) (nomark _)) (pe_one (pe_cmpR (op_eqD hr.units) (pe_ix ix_tup (pe_ix ix_tup (pv 7) pe_int (fun _ _ => rfl)) (pe_ix ix_tup (pv 1) pe_int (fun _ _ => rfl)) (fun _ _ => rfl)) (pv 4) (nomark _))))))))))))))))), ?_⟩
    obtain ⟨xn, xr, xk⟩ := x
    obtain rfl : fn.nm = xn := ha.nm
    obtain ⟨bu, rfl, hSu⟩ := Pl.inv hu
    have esh : SeqAt.shaped e.d = true := Ex.shaped eok edp (by decide)
    -- the three
    refine ⟨_, rfl, _, rfl, bu, _, 0, _, rfl, rfl, hSu, at0, _, p, fn, rfl, hv, hp, ha.f_in, fun vW tW => ?_⟩
    refine ⟨_, rfl, _, rfl, _, _, p, _, fn, row, e, rfl, hv, hp, hu, ha, fun vN H1 s1 tN => ?_⟩
    refine ⟨_, rfl, _, rfl, _, _, p, _, fn, row, e, rfl, hv.mono s1.tsm, hp, hu.mono s1.tsm, ha, fun vE H2 s2 tE => ⟨_, _, _, rfl, ?_⟩⟩
    have sA := s1.trans s2
    obtain ⟨an, xsN, rfl, hN1, hNA⟩ := tN.tup_inv
    obtain rfl := hNA.strs
    have hN2 := s2.tsm _ _ hN1
    obtain ⟨aW, v3, v5, rfl, hSW, t3, t5⟩ := Fnc.inv tW
    obtain ⟨a3, xs3, rfl, hS3, hA3⟩ := t3.tup_inv
    obtain ⟨a5, xs5, rfl, hS5, hA5⟩ := t5.tup_inv
    have hl3 : xs3.length = fn.vars.length := hA3.map_len
    -- is_expression, fits
    refine ⟨_, rfl, _, e, rfl, tE, eok, edp, fun H3 s3 => ⟨_, rfl, ?_⟩⟩
    refine ⟨_, rfl, _, rfl, an, fn.names, vE, e, rfl, .inr (s3.tsm _ _ hN2), tE.mono s3.tsm, eok, edp, eft, fun H4 s4 => ⟨_, rfl, ?_⟩⟩
    have s24 := s3.trans s4
    have sA4 := sA.trans s24
    -- no name twice
    refine ⟨_, rfl, an, rfl, ⟨_, s24.tsm _ _ hN2⟩, fun Dl nL => ?_⟩
    have hR : ∀ (i : Nat) (v : V) (G G' : Hp), TSm K G G' → (fun (i : Nat) (v : V) (H : Hp) => ∀ n, fn.names[i]? = some n → ∃ c, v = .ref c ∧ SqT K H c [.str n, .int 0]) i v G →
        (fun (i : Nat) (v : V) (H : Hp) => ∀ n, fn.names[i]? = some n → ∃ c, v = .ref c ∧ SqT K H c [.str n, .int 0]) i v G' := fun i v G G' t h n e => by
      obtain ⟨c, rfl, h1⟩ := h n e
      exact ⟨c, rfl, t _ _ h1⟩
    refine walkT (K := K) (a := an) (xs := fn.names.map V.str) (PvM H4 Dl (fun (i : Nat) (v : V) (H : Hp) => ∀ n, fn.names[i]? = some n → ∃ c, v = .ref c ∧ SqT K H c [.str n, .int 0])) (PvM.zero nL) (fun i H' _ pp => (s24.trans pp.1).tsm _ _ hN2) (fun i y H5 hy pp => ?_) (fun H5 pp => ?_)
    · rw [List.getElem?_map] at hy
      cases hni : fn.names[i]? with
      | none => rw [hni] at hy; cases hy
      | some n =>
        rw [hni] at hy
        cases hy
        have hil := (List.getElem?_eq_some_iff.mp hni).1
        refine ⟨rfl, _, rfl, len2_line, fun c5 nc5 => ?_⟩
        refine PvM.step hR nL pp (by omega) (same_upd nc5) fun m em => ?_
        rw [hni] at em
        cases em
        exact ⟨c5, rfl, .of upd_same⟩
    obtain ⟨s5, ws, ew, hlw, hw⟩ := pp
    rw [List.length_map] at hlw
    obtain ⟨ps, rfl, hpr⟩ := pairs0 (K := K) (H := H5) (ns := fn.names) (ys := ws) hlw fun j y n hy hn => hw j y hy n hn
    refine ⟨Dl, ps, _, rfl, .of ew, hpr, fun pd npd => ?_⟩
    have hmg : mergeK [] (fn.names.map fun n => ((Sum.inr n : Key), V.int 0)) = fn.names.map fun n => ((Sum.inr n : Key), V.int 0) := by
      refine mergeK_app (kvs := []) ?_
      rw [List.nil_append, List.map_map]
      unfold List.Nodup
      rw [List.pairwise_map]
      exact hfn.nd.imp fun h e => h (Sum.inr.inj e)
    rw [hmg]
    have s6 : Same H5 (upd H5 pd (.dK (fn.names.map fun n => ((Sum.inr n : Key), V.int 0)))) := same_upd npd
    have e6 : (upd H5 pd (.dK (fn.names.map fun n => ((Sum.inr n : Key), V.int 0)))) pd = some (.dK (fn.names.map fun n => ((Sum.inr n : Key), V.int 0))) := upd_same
    generalize upd H5 pd (.dK (fn.names.map fun n => ((Sum.inr n : Key), V.int 0))) = H6 at s6 e6
    have s26 := s24.trans (s5.trans s6)
    have sA6 := sA.trans s26
    refine ⟨pd, _, rfl, e6, _, rfl, _, _, rfl, .inr ⟨_, s26.tsm _ _ hN2, rfl⟩, rfl, _, rfl, ?_⟩
    rw [List.length_map, List.length_map]
    refine iteF1 (b := !decide (V.int (fn.names.length : Nat) = V.int (fn.names.length : Nat))) (by rw [decide_eq_true rfl]; rfl) ?_
    -- the names are the variables'
    refine ⟨_, rfl, _, rfl, aW, _, 3, _, rfl, rfl, sA6.tsm _ _ hSW, at3, a3, rfl, ⟨_, sA6.tsm _ _ hS3⟩, fun Dm nM => ?_⟩
    refine walkT (K := K) (a := a3) (xs := xs3) (PvX H6 Dm (fn.names.map V.str)) (PvX.zero nM) (fun i H' _ pp => (sA6.trans pp.1).tsm _ _ hS3) (fun i y H7 hy pp => ?_) (fun H7 pp => ?_)
    · obtain ⟨vr, hvi, hvm, tvr⟩ := hA3.map_get hy
      obtain ⟨av, rfl, hSv⟩ := Vr.inv tvr
      have hi : i < fn.vars.length := (List.getElem?_eq_some_iff.mp hvi).1
      refine ⟨rfl, _, rfl, av, _, 0, _, rfl, rfl, (sA6.trans pp.1).tsm _ _ hSv, at0, ?_⟩
      exact PvX.step nM pp (by omega) (Same.refl _) (by rw [List.getElem?_map]; unfold Fnc.names; rw [List.getElem?_map, hvi]; rfl)
    have eM : H7 Dm = some (.lst (fn.names.map V.str)) := by
      refine PvX.done (S := H6) ?_
      have el : (fn.names.map V.str).length = xs3.length := by rw [hl3, List.length_map, hnl]
      rw [el]
      exact pp
    refine ⟨Dm, _, rfl, .inl ⟨.of eM, fun l nl => ?_⟩⟩
    have s8 : Same H7 (upd H7 l (.tup (fn.names.map V.str))) := same_upd nl
    have e8 : (upd H7 l (.tup (fn.names.map V.str))) l = some (.tup (fn.names.map V.str)) := upd_same
    generalize upd H7 l (.tup (fn.names.map V.str)) = H8 at s8 e8
    have s28 := s26.trans (pp.1.trans s8)
    have sA8 := sA.trans s28
    have nsh := shaped_strs hnm
    refine ⟨.tuple (fn.names.map .str), .tuple (fn.names.map .str), .tup (s28.tsm _ _ hN2) (tpAll_strs _).dp, .tup (.of e8) (tpAll_strs _).dp, nsh, nsh, _, rfl, iteF1 (b := !PyData.eqv (.tuple (fn.names.map .str)) (.tuple (fn.names.map .str))) (neqv_self nsh) ?_⟩
    -- all are names
    refine ⟨_, rfl, an, rfl, ⟨_, s28.tsm _ _ hN2⟩, fun D2 nD2 => ?_⟩
    refine walkT (K := K) (a := an) (xs := fn.names.map V.str) (fun i H' => Same H8 H' ∧ H' D2 = some (.lst [])) ⟨same_upd nD2, upd_same⟩ (fun i H' _ pp => (s28.trans pp.1).tsm _ _ hN2) (fun i y H9 hy p9 => ?_) (fun H9 p9 => ?_)
    · rw [List.getElem?_map] at hy
      cases hni : fn.names[i]? with
      | none => rw [hni] at hy; cases hy
      | some n =>
        rw [hni] at hy
        cases hy
        exact ⟨rfl, _, rfl, .str n, .str n, rfl, .str n, fun z ez => by cases ez; exact hnm n (List.mem_of_getElem? hni), fun H' s' => ⟨_, rfl, p9.1.trans s', s' _ _ p9.2⟩⟩
    refine ⟨Nat.zero_le _, fun c10 nc10 => ?_⟩
    have s10 : Same H9 (upd H9 c10 (.lst [])) := same_upd nc10
    refine ⟨.list [], .list [], .lst (.of (s10 _ _ p9.2)) .nil, .lst (.of upd_same) .nil, shaped_nilL, shaped_nilL, _, rfl, iteF1 (b := !PyData.eqv (.list []) (.list [])) (by rw [eqvL_nil]; rfl) ?_⟩
    generalize upd H9 c10 (.lst []) = H10 at s10
    have s210 := s28.trans (p9.1.trans s10)
    have sA10 := sA.trans s210
    -- low, high
    refine ⟨_, rfl, _, rfl, _, _, p, _, fn, row, e, rg, rfl, hv.mono sA10.tsm, hp, hu.mono sA10.tsm, ha, hrg, fun vR H11 s11 tR => ?_⟩
    obtain ⟨aR, xsR, rfl, hSR, hAR⟩ := tR.tup_inv
    obtain ⟨w0, xsR, rfl, tw0, hAR⟩ := hAR.cons_inv
    obtain ⟨w1, xsR, rfl, tw1, hAR⟩ := hAR.cons_inv
    obtain rfl := hAR.nil_inv
    obtain rfl := tw0.int_inv
    obtain rfl := tw1.int_inv
    have s211 := s210.trans s11
    have sA11 := sA.trans s211
    refine ⟨aR, _, rfl, hSR, rfl, _, _, rfl, _, _, rfl, rfl, ?_⟩
    -- the row
    obtain ⟨vr, hvr, tr⟩ := hA5.at (i := xr) (d := row.d) (by rw [List.getElem?_map, ha.row_at]; rfl)
    obtain ⟨cR, ys, rfl, hSc, hY⟩ := Rw.inv tr
    refine ⟨_, rfl, aW, _, 5, _, rfl, rfl, sA11.tsm _ _ hSW, at5, _, rfl, bu, _, 1, _, rfl, rfl, sA11.tsm _ _ hSu, at1, a5, xs5, _, _, rfl, rfl, sA11.tsm _ _ hS5, atI_nat hvr, ?_⟩
    refine ⟨_, rfl, _, rfl, _, _, rfl, rfl, _, rfl, iteF1 (b := decide (rg.2 < rg.1)) (decide_eq_false (by omega)) ?_⟩
    obtain ⟨rok, rp3⟩ := hfn.rok row ha.row_in
    refine ⟨_, rfl, _, row, rfl, tr.mono sA11.tsm, rok, Nat.le_trans rp3 (by decide), fun H12 s12 => ⟨_, rfl, ?_⟩⟩
    have s212 := s211.trans s12
    have sA12 := sA.trans s212
    have tE12 := tE.mono s212.tsm
    -- row[0] in ("if", "while")
    refine ⟨_, rfl, cR, _, 0, _, rfl, rfl, sA12.tsm _ _ hSc, at0, len2_line, fun c13 nc13 => ?_⟩
    have s13 : Same H12 (upd H12 c13 (.tup [.str "if", .str "while"])) := same_upd nc13
    refine ⟨c13, _, rfl, .inr (.of upd_same), rfl, rfl, _, rfl, ?_⟩
    generalize upd H12 c13 (.tup [.str "if", .str "while"]) = H13 at s13
    have s213 := s212.trans s13
    have sA13 := sA.trans s213
    have tE13 := tE.mono s213.tsm
    have hSc13 := sA13.tsm _ _ hSc
    have hSu13 := sA13.tsm _ _ hSu
    have hSW13 := sA13.tsm _ _ hSW
    cases row with
    | els => exact absurd ha.e_in (by intro z; cases z)
    | nd => exact absurd ha.e_in (by intro z; cases z)
    | ifr e' =>
      obtain ⟨hk0, rfl⟩ := ha.one (e' := e') rfl
      obtain rfl : xk = 0 := hk0
      obtain ⟨ve, zs, rfl, te, hnil⟩ := hY.cons_inv
      obtain rfl := hnil.nil_inv
      cases hrg
      refine iteT1 (b := inV (.str (Rw.word (.ifr e'))) [.str "if", .str "while"]) (by rw [word_open]; rfl) ?_
      refine ⟨_, rfl, _, rfl, _, rfl, bu, _, 2, _, rfl, rfl, hSu13, at2, _, rfl, cR, _, 1, _, rfl, rfl, hSc13, at1, len4_line, fun c14 nc14 => ?_⟩
      have s14 : Same H13 (upd H13 c14 (.tup [.int 0, .int 1, .int 0, ve])) := same_upd nc14
      have e14 : (upd H13 c14 (.tup [.int 0, .int 1, .int 0, ve])) c14 = some (.tup [.int 0, .int 1, .int 0, ve]) := upd_same
      refine ⟨_, rfl, len4_line, fun c15 nc15 => ?_⟩
      have s15 := same_upd (o := .tup [.int 0, .int 1, .int 0, vE]) nc15
      have qs := quad_shaped (lo := 0) (hi := 1) eok edp
      refine ⟨quad 0 1 e', quad 0 1 e', (tp_quad (.of (s15 _ _ e14)) (te.mono (sA13.trans (s14.trans s15)).tsm)).dp, (tp_quad (.of upd_same) (tE13.mono (s14.trans s15).tsm)).dp, qs, qs, ?_⟩
      have eq1 := eqv_self qs
      show Q (.bl (PyData.eqv (quad 0 1 e') (quad 0 1 e'))) _
      rw [eq1]
      exact q _ (sA13.trans (s14.trans s15))
    | whl e' =>
      obtain ⟨hk0, rfl⟩ := ha.one (e' := e') rfl
      obtain rfl : xk = 0 := hk0
      obtain ⟨ve, zs, rfl, te, hnil⟩ := hY.cons_inv
      obtain rfl := hnil.nil_inv
      cases hrg
      refine iteT1 (b := inV (.str (Rw.word (.whl e'))) [.str "if", .str "while"]) (by rw [word_open]; rfl) ?_
      refine ⟨_, rfl, _, rfl, _, rfl, bu, _, 2, _, rfl, rfl, hSu13, at2, _, rfl, cR, _, 1, _, rfl, rfl, hSc13, at1, len4_line, fun c14 nc14 => ?_⟩
      have s14 : Same H13 (upd H13 c14 (.tup [.int 0, .int 1, .int 0, ve])) := same_upd nc14
      have e14 : (upd H13 c14 (.tup [.int 0, .int 1, .int 0, ve])) c14 = some (.tup [.int 0, .int 1, .int 0, ve]) := upd_same
      refine ⟨_, rfl, len4_line, fun c15 nc15 => ?_⟩
      have s15 := same_upd (o := .tup [.int 0, .int 1, .int 0, vE]) nc15
      have qs := quad_shaped (lo := 0) (hi := 1) eok edp
      refine ⟨quad 0 1 e', quad 0 1 e', (tp_quad (.of (s15 _ _ e14)) (te.mono (sA13.trans (s14.trans s15)).tsm)).dp, (tp_quad (.of upd_same) (tE13.mono (s14.trans s15).tsm)).dp, qs, qs, ?_⟩
      have eq1 := eqv_self qs
      show Q (.bl (PyData.eqv (quad 0 1 e') (quad 0 1 e'))) _
      rw [eq1]
      exact q _ (sA13.trans (s14.trans s15))
    | ret e' =>
      obtain ⟨hk0, rfl⟩ := ha.one (e' := e') rfl
      obtain rfl : xk = 0 := hk0
      obtain ⟨ve, zs, rfl, te, hnil⟩ := hY.cons_inv
      obtain rfl := hnil.nil_inv
      cases hrg
      refine iteF1 (b := inV (.str (Rw.word (.ret e'))) [.str "if", .str "while"]) (by rw [word_open]; rfl) ?_
      refine ⟨_, rfl, cR, _, 0, _, rfl, rfl, hSc13, at0, rfl, _, rfl, iteT1 (b := decide (V.str ("return" : Str) = V.str "return")) (by decide +kernel) ?_⟩
      refine ⟨_, rfl, _, rfl, _, rfl, bu, _, 2, _, rfl, rfl, hSu13, at2, _, rfl, cR, _, 1, _, rfl, rfl, hSc13, at1, len4_line, fun c14 nc14 => ?_⟩
      have s14 : Same H13 (upd H13 c14 (.tup [.int fn.lo, .int fn.hi, .int 0, ve])) := same_upd nc14
      have e14 : (upd H13 c14 (.tup [.int fn.lo, .int fn.hi, .int 0, ve])) c14 = some (.tup [.int fn.lo, .int fn.hi, .int 0, ve]) := upd_same
      refine ⟨_, rfl, aW, _, 1, _, rfl, rfl, s14.tsm _ _ hSW13, at1, _, rfl, aW, _, 2, _, rfl, rfl, s14.tsm _ _ hSW13, at2, _, rfl, len4_line, fun c15 nc15 => ?_⟩
      have s15 := same_upd (o := .tup [.int fn.lo, .int fn.hi, .int 0, vE]) nc15
      have qs := quad_shaped (lo := fn.lo) (hi := fn.hi) eok edp
      refine ⟨quad fn.lo fn.hi e', quad fn.lo fn.hi e', (tp_quad (.of (s15 _ _ e14)) (te.mono (sA13.trans (s14.trans s15)).tsm)).dp, (tp_quad (.of upd_same) (tE13.mono (s14.trans s15).tsm)).dp, qs, qs, ?_⟩
      have eq1 := eqv_self qs
      show Q (.bl (PyData.eqv (quad fn.lo fn.hi e') (quad fn.lo fn.hi e'))) _
      rw [eq1]
      exact q _ (sA13.trans (s14.trans s15))
    | set z e' =>
      obtain ⟨hk0, rfl⟩ := ha.one (e' := e') rfl
      obtain rfl : xk = 0 := hk0
      obtain ⟨vz, zs, rfl, tz, hY2⟩ := hY.cons_inv
      obtain rfl := tz.str_inv
      obtain ⟨ve, zs2, rfl, te, hnil⟩ := hY2.cons_inv
      obtain rfl := hnil.nil_inv
      have hrg' : (fn.vars.find? fun v => decide (v.x = z)).map (fun v => (v.lo, v.hi)) = some rg := hrg
      cases hf : fn.vars.find? (fun v => decide (v.x = z)) with
      | none => rw [hf] at hrg'; cases hrg'
      | some vz =>
      rw [hf] at hrg'
      cases hrg'
      have hvz : vz.x = z := by simpa using List.find?_some hf
      have hvm : vz ∈ fn.vars := List.mem_of_find?_eq_some hf
      refine iteF1 (b := inV (.str (Rw.word (.set z e'))) [.str "if", .str "while"]) (by rw [word_open]; rfl) ?_
      refine ⟨_, rfl, cR, _, 0, _, rfl, rfl, hSc13, at0, rfl, _, rfl, iteF1 (b := decide (V.str ("set" : Str) = V.str "return")) (by decide +kernel) ?_⟩
      refine ⟨_, rfl, cR, _, 0, _, rfl, rfl, hSc13, at0, rfl, _, rfl, iteT1 (b := decide (V.str ("set" : Str) = V.str "set")) (by decide +kernel) ?_⟩
      refine ⟨_, rfl, cR, _, 1, _, rfl, rfl, hSc13, at1, _, rfl, _, rfl, len3_line, fun c14 nc14 => ?_⟩
      have s14 : Same H13 (upd H13 c14 (.tup [.str z, .int vz.lo, .int vz.hi])) := same_upd nc14
      have e14 : (upd H13 c14 (.tup [.str z, .int vz.lo, .int vz.hi])) c14 = some (.tup [.str z, .int vz.lo, .int vz.hi]) := upd_same
      generalize upd H13 c14 (.tup [.str z, .int vz.lo, .int vz.hi]) = H14 at s14 e14
      have hvd : Vr.d vz = .tuple [.str z, .int vz.lo, .int vz.hi] := by unfold Vr.d; rw [hvz]
      have hvsh : ∀ v ∈ fn.vars, v.d.canLay0 = true ∧ v.d.depth ≤ 60 := fun v hv => by
        have h1 := FnW.vshaped (hfn.vars v hv).1
        exact ⟨h1.1, Nat.le_trans h1.2 (by decide)⟩
      have hmem : Vr.d vz ∈ fn.vars.map Vr.d := List.mem_map.mpr ⟨vz, hvm, rfl⟩
      refine ⟨_, rfl, aW, _, 3, _, rfl, rfl, s14.tsm _ _ hSW13, at3, Vr.d vz, fn.vars.map Vr.d, ?_, ?_, shaped_of (hvsh vz hvm).1 (Nat.le_trans (hvsh vz hvm).2 (by decide)), shapedT (fun d hd => ?_), _, rfl, ?_⟩
      · rw [hvd]
        exact .tup (.of e14) (.cons (.str _) (.cons (.int _) (.cons (.int _) .nil)))
      · exact .tup ((sA13.trans s14).tsm _ _ hS3) (hA3.mono (sA13.trans s14).tsm).dp
      · obtain ⟨v, hv, rfl⟩ := List.mem_map.mp hd
        exact hvsh v hv
      refine iteT1 (b := (fn.vars.map Vr.d).any fun y => PyData.eqv y (Vr.d vz)) (any_self (hvsh vz hvm).1 hmem) ?_
      refine ⟨_, rfl, bu, _, 2, _, rfl, rfl, s14.tsm _ _ hSu13, at2, rfl, _, rfl, iteT1 (b := decide (V.int ((0 : Nat) : Int) = V.int 0)) (by decide +kernel) ?_⟩
      refine ⟨_, rfl, cR, _, 2, _, rfl, rfl, s14.tsm _ _ hSc13, at2, _, rfl, e'.d, e'.d, (te.mono (sA13.trans s14).tsm).dp, (tE13.mono s14.tsm).dp, esh, esh, ?_⟩
      have eq1 := eqv_self esh
      show Q (.bl (PyData.eqv e'.d e'.d)) _
      rw [eq1]
      exact q _ (sA13.trans s14)
    | call z g as =>
      obtain ⟨b2, zs, rfl, hb2, hB⟩ := call_inv hY
      have hrg' : ((p.fns.find? fun f => decide (f.nm = g)).bind fun f' => f'.vars[xk]?.map fun v => (v.lo, v.hi)) = some rg := hrg
      have h3 := hp.fit fn ha.f_in _ ha.row_in
      simp only [rowFits, Bool.and_eq_true, decide_eq_true_eq] at h3
      obtain ⟨fg, h4, h5, h6, h7⟩ := PgW.fn_cnt h3.1.2
      rw [h4] at hrg'
      subst h6
      have hr2 : fg.vars[xk]?.map (fun v => (v.lo, v.hi)) = some rg := hrg'
      cases hv2 : fg.vars[xk]? with
      | none => rw [hv2] at hr2; cases hr2
      | some vv =>
      rw [hv2] at hr2
      cases hr2
      have hpart : as[xk]? = some e := ha.part_at
      have hkm : xk < fg.many := by
        have h8 := (List.getElem?_eq_some_iff.mp hpart).1
        omega
      obtain ⟨vex, hvex, tex⟩ := hB.at (i := xk) (d := e.d) (by rw [List.getElem?_map, hpart]; rfl)
      refine iteF1 (b := inV (.str (Rw.word (.call z fg.nm as))) [.str "if", .str "while"]) (by rw [word_open]; rfl) ?_
      refine ⟨_, rfl, cR, _, 0, _, rfl, rfl, hSc13, at0, rfl, _, rfl, iteF1 (b := decide (V.str ("call" : Str) = V.str "return")) (by decide +kernel) ?_⟩
      refine ⟨_, rfl, cR, _, 0, _, rfl, rfl, hSc13, at0, rfl, _, rfl, iteF1 (b := decide (V.str ("call" : Str) = V.str "set")) (by decide +kernel) ?_⟩
      refine ⟨_, rfl, _, rfl, cR, _, 2, _, rfl, rfl, hSc13, at2, _, p, fg, rfl, hv.mono sA13.tsm, hp, h5, fun vO tO => ?_⟩
      obtain ⟨aO, o3, o5, rfl, hSO, tO3, _⟩ := Fnc.inv tO
      obtain ⟨aO3, xsO3, rfl, hSO3, hAO3⟩ := tO3.tup_inv
      obtain ⟨vx, hvx, tvx⟩ := hAO3.at (i := xk) (d := vv.d) (by rw [List.getElem?_map, hv2]; rfl)
      obtain ⟨av, rfl, hSv⟩ := Vr.inv tvx
      refine ⟨_, rfl, aO, _, 3, _, rfl, rfl, hSO, at3, _, rfl, bu, _, 2, _, rfl, rfl, hSu13, at2, aO3, xsO3, _, _, rfl, rfl, hSO3, atI_nat hvx, 1, rfl, av, _, rfl, hSv, (fun z => absurd z not_whole1), fun _ sl nsl => ?_⟩
      rw [cutV_1]
      have s14 : Same H13 (upd H13 sl (.tup [.int vv.lo, .int vv.hi])) := same_upd nsl
      have e14 : (upd H13 sl (.tup [.int vv.lo, .int vv.hi])) sl = some (.tup [.int vv.lo, .int vv.hi]) := upd_same
      generalize upd H13 sl (.tup [.int vv.lo, .int vv.hi]) = H14 at s14 e14
      refine ⟨_, rfl, _, rfl, len2_line, fun c15 nc15 => ?_⟩
      have s15 : Same H14 (upd H14 c15 (.tup [.int vv.lo, .int vv.hi])) := same_upd nc15
      have e15 : (upd H14 c15 (.tup [.int vv.lo, .int vv.hi])) c15 = some (.tup [.int vv.lo, .int vv.hi]) := upd_same
      generalize upd H14 c15 (.tup [.int vv.lo, .int vv.hi]) = H15 at s15 e15
      have rs := rng_shaped (vv.lo, vv.hi)
      have s145 := s14.trans s15
      refine ⟨rngD (vv.lo, vv.hi), rngD (vv.lo, vv.hi), (Tp.rng (r := (vv.lo, vv.hi)) (.of (s15 _ _ e14))).dp, (Tp.rng (r := (vv.lo, vv.hi)) (.of e15)).dp, rs, rs, _, rfl, iteT1 (b := PyData.eqv (rngD (vv.lo, vv.hi)) (rngD (vv.lo, vv.hi))) (eqv_self rs) ?_⟩
      refine ⟨_, rfl, bu, _, 2, _, rfl, rfl, s145.tsm _ _ hSu13, at2, _, rfl, aO, _, 4, _, rfl, rfl, s145.tsm _ _ hSO, at4, _, _, rfl, rfl, _, rfl, iteT1 (b := decide (((xk : Nat) : Int) < (fg.many : Nat))) (decide_eq_true (by omega)) ?_⟩
      have sA15 := sA13.trans s145
      refine ⟨_, rfl, cR, _, 3, _, rfl, rfl, sA15.tsm _ _ hSc, at3, _, rfl, bu, _, 2, _, rfl, rfl, sA15.tsm _ _ hSu, at2, b2, zs, _, _, rfl, rfl, sA15.tsm _ _ hb2, atI_nat hvex, _, rfl, e.d, e.d, (tex.mono sA15.tsm).dp, (tE13.mono s145.tsm).dp, esh, esh, ?_⟩
      have eq1 := eqv_self esh
      show Q (.bl (PyData.eqv e.d e.d)) _
      rw [eq1]
      exact q _ sA15
end
end B9

/-! Blocks as trees: their rows, their jumps; what the checker's stack and jumps_of's stack do with them. -/
namespace B9

inductive Sq where
  | nil
  | plain (r : Rw) (s : Sq)
  | whl (e : Ex) (b s : Sq)
  | ife (e : Ex) (b s : Sq)
  | ifel (e : Ex) (b c s : Sq)
namespace Sq
def rows : Sq → List Rw
  | nil => []
  | plain r s => r :: s.rows
  | whl e b s => .whl e :: (b.rows ++ .nd :: s.rows)
  | ife e b s => .ifr e :: (b.rows ++ .nd :: s.rows)
  | ifel e b c s => .ifr e :: (b.rows ++ .els :: (c.rows ++ .nd :: s.rows))
def size : Sq → Nat
  | nil => 0
  | plain _ s => s.size + 1
  | whl _ b s => b.size + s.size + 2
  | ife _ b s => b.size + s.size + 2
  | ifel _ b c s => b.size + c.size + s.size + 3
/-- plain rows are no rows of blocks -/
def ok : Sq → Bool
  | nil => true
  | plain r s => !r.jmp && s.ok
  | whl _ b s => b.ok && s.ok
  | ife _ b s => b.ok && s.ok
  | ifel _ b c s => b.ok && c.ok && s.ok
def app : Sq → Sq → Sq
  | nil, t => t
  | plain r s, t => plain r (s.app t)
  | whl e b s, t => whl e b (s.app t)
  | ife e b s, t => ife e b (s.app t)
  | ifel e b c s, t => ifel e b c (s.app t)
def jm (o : Nat) : Sq → List (Option Nat)
  | nil => []
  | plain _ s => none :: s.jm (o + 1)
  | whl _ b s => some (o + b.size + 2) :: (b.jm (o + 1) ++ some o :: s.jm (o + b.size + 2))
  | ife _ b s => some (o + b.size + 2) :: (b.jm (o + 1) ++ some (o + b.size + 2) :: s.jm (o + b.size + 2))
  | ifel _ b c s => some (o + b.size + 2) :: (b.jm (o + 1) ++ some (o + b.size + c.size + 3) :: (c.jm (o + b.size + 2) ++ some (o + b.size + c.size + 3) :: s.jm (o + b.size + c.size + 3)))
theorem rows_len : ∀ s : Sq, s.rows.length = s.size
  | nil => rfl
  | plain r s => by simp only [rows, size, List.length_cons, rows_len s]
  | whl e b s => by simp only [rows, size, List.length_cons, List.length_append, rows_len b, rows_len s]; omega
  | ife e b s => by simp only [rows, size, List.length_cons, List.length_append, rows_len b, rows_len s]; omega
  | ifel e b c s => by simp only [rows, size, List.length_cons, List.length_append, rows_len b, rows_len c, rows_len s]; omega
theorem jm_len : ∀ (s : Sq) (o : Nat), (s.jm o).length = s.size
  | nil, o => rfl
  | plain r s, o => by simp only [jm, size, List.length_cons, jm_len s]
  | whl e b s, o => by simp only [jm, size, List.length_cons, List.length_append, jm_len b, jm_len s]; omega
  | ife e b s, o => by simp only [jm, size, List.length_cons, List.length_append, jm_len b, jm_len s]; omega
  | ifel e b c s, o => by simp only [jm, size, List.length_cons, List.length_append, jm_len b, jm_len c, jm_len s]; omega
theorem app_rows : ∀ s t : Sq, (s.app t).rows = s.rows ++ t.rows
  | nil, t => rfl
  | plain r s, t => by simp only [app, rows, app_rows s t, List.cons_append]
  | whl e b s, t => by simp only [app, rows, app_rows s t, List.cons_append, List.append_assoc]
  | ife e b s, t => by simp only [app, rows, app_rows s t, List.cons_append, List.append_assoc]
  | ifel e b c s, t => by simp only [app, rows, app_rows s t, List.cons_append, List.append_assoc]
theorem app_ok : ∀ s t : Sq, (s.app t).ok = (s.ok && t.ok)
  | nil, t => rfl
  | plain r s, t => by simp only [app, ok, app_ok s t, Bool.and_assoc]
  | whl e b s, t => by simp only [app, ok, app_ok s t, Bool.and_assoc]
  | ife e b s, t => by simp only [app, ok, app_ok s t, Bool.and_assoc]
  | ifel e b c s, t => by simp only [app, ok, app_ok s t, Bool.and_assoc]
theorem app_size (s t : Sq) : (s.app t).size = s.size + t.size := by
  rw [← rows_len, ← rows_len, ← rows_len, app_rows, List.length_append]
end Sq

/-! ### item by item -/
def AllF {α : Type} (P : Nat → α → Prop) : Nat → List α → Prop
  | _, [] => True
  | o, x :: xs => P o x ∧ AllF P (o + 1) xs
section
variable {α : Type} {P P' : Nat → α → Prop}
theorem AllF.app : ∀ {o : Nat} {xs ys : List α}, AllF P o (xs ++ ys) ↔ AllF P o xs ∧ AllF P (o + xs.length) ys
  | o, [], ys => by simp [AllF]
  | o, x :: xs, ys => by
    show (P o x ∧ AllF P (o + 1) (xs ++ ys)) ↔ (P o x ∧ AllF P (o + 1) xs) ∧ AllF P (o + (xs.length + 1)) ys
    rw [AllF.app (o := o + 1), show o + (xs.length + 1) = o + 1 + xs.length by omega, and_assoc]
theorem AllF.get : ∀ {o : Nat} {xs : List α} {i : Nat} {x : α}, AllF P o xs → xs[i]? = some x → P (o + i) x
  | o, [], i, x, _, e => by simp at e
  | o, y :: xs, 0, x, h, e => by
    cases e
    exact h.1
  | o, y :: xs, i + 1, x, h, e => by
    have := AllF.get (o := o + 1) (i := i) h.2 (show xs[i]? = some x from e)
    rw [show o + (i + 1) = o + 1 + i by omega]
    exact this
theorem AllF.of : ∀ {o : Nat} {xs : List α}, (∀ (i : Nat) (x : α), xs[i]? = some x → P (o + i) x) → AllF P o xs
  | o, [], _ => True.intro
  | o, x :: xs, h => ⟨h 0 x rfl, AllF.of fun i y e => by
      have := h (i + 1) y e
      rw [show o + 1 + i = o + (i + 1) by omega]
      exact this⟩
theorem AllF.imp (h : ∀ k x, P k x → P' k x) : ∀ {o : Nat} {xs : List α}, AllF P o xs → AllF P' o xs
  | o, [], _ => True.intro
  | o, x :: xs, ⟨h1, h2⟩ => ⟨h _ _ h1, AllF.imp h h2⟩
end
/-- the list holds these from o on -/
abbrev Seg {α : Type} (L : List α) (o : Nat) (xs : List α) : Prop := AllF (fun k x => L[k]? = some x) o xs
theorem seg_self {α : Type} (L : List α) : Seg L 0 L := AllF.of fun i x e => by rw [Nat.zero_add]; exact e

/-! ### a run -/
def runL {S : Type} (step : Nat → Rw → S → Option S) : Nat → List Rw → S → Option S
  | _, [], s => some s
  | o, r :: rs, s => (step o r s).bind (runL step (o + 1) rs)
theorem runL_app {S : Type} {step : Nat → Rw → S → Option S} : ∀ {o : Nat} {xs ys : List Rw} {s : S}, runL step o (xs ++ ys) s = (runL step o xs s).bind (runL step (o + xs.length) ys)
  | o, [], ys, s => rfl
  | o, x :: xs, ys, s => by
    show (step o x s).bind (runL step (o + 1) (xs ++ ys)) = ((step o x s).bind (runL step (o + 1) xs)).bind (runL step (o + (xs.length + 1)) ys)
    cases step o x s with
    | none => rfl
    | some s1 =>
      show runL step (o + 1) (xs ++ ys) s1 = (runL step (o + 1) xs s1).bind (runL step (o + (xs.length + 1)) ys)
      rw [runL_app, show o + (xs.length + 1) = o + 1 + xs.length by omega]
theorem runL_seq {S : Type} {step : Nat → Rw → S → Option S} : ∀ {o : Nat} {xs : List Rw} {s s' : S}, runL step o xs s = some s' →
    ∃ f : Nat → S, f 0 = s ∧ (∀ i, xs.length ≤ i → f i = s') ∧ ∀ i row, xs[i]? = some row → step (o + i) row (f i) = some (f (i + 1))
  | o, [], s, s', h => by
    cases h
    exact ⟨fun _ => s, rfl, fun _ _ => rfl, fun i row e => by simp at e⟩
  | o, x :: xs, s, s', h => by
    have h : (step o x s).bind (runL step (o + 1) xs) = some s' := h
    cases e : step o x s with
    | none => rw [e] at h; cases h
    | some s1 =>
      rw [e] at h
      obtain ⟨g, g0, g1, g2⟩ := runL_seq (o := o + 1) (xs := xs) (s := s1) h
      refine ⟨fun i => match i with | 0 => s | i + 1 => g i, rfl, fun i hi => ?_, fun i row er => ?_⟩
      · cases i with
        | zero => simp at hi
        | succ i => exact g1 i (by simpa using hi)
      · cases i with
        | zero =>
          cases er
          show step o x s = some (g 0)
          rw [e, g0]
        | succ i =>
          have := g2 i row er
          rw [show o + (i + 1) = o + 1 + i by omega]
          exact this
/-! ### the checker's stack -/
theorem runB_sq : ∀ (s : Sq) (o : Nat) (st : Stk), s.ok = true → runL stepB o s.rows st = some st
  | .nil, o, st, _ => rfl
  | .plain r s, o, st, h => by
    simp only [Sq.ok, Bool.and_eq_true] at h
    show (stepB o r st).bind (runL stepB (o + 1) s.rows) = some st
    have e : stepB o r st = some st := by cases r <;> first | rfl | (exact absurd h.1 Bool.false_ne_true)
    rw [e]
    exact runB_sq s (o + 1) st h.2
  | .whl e b s, o, st, h => by
    simp only [Sq.ok, Bool.and_eq_true] at h
    show (stepB o (.whl e) st).bind (runL stepB (o + 1) (b.rows ++ .nd :: s.rows)) = some st
    show runL stepB (o + 1) (b.rows ++ .nd :: s.rows) ((.w, o) :: st) = some st
    rw [runL_app, runB_sq b (o + 1) _ h.1]
    exact runB_sq s _ st h.2
  | .ife e b s, o, st, h => by
    simp only [Sq.ok, Bool.and_eq_true] at h
    show runL stepB (o + 1) (b.rows ++ .nd :: s.rows) ((.i, o) :: st) = some st
    rw [runL_app, runB_sq b (o + 1) _ h.1]
    exact runB_sq s _ st h.2
  | .ifel e b c s, o, st, h => by
    simp only [Sq.ok, Bool.and_eq_true] at h
    show runL stepB (o + 1) (b.rows ++ .els :: (c.rows ++ .nd :: s.rows)) ((.i, o) :: st) = some st
    rw [runL_app, runB_sq b (o + 1) _ h.1.1]
    show runL stepB (o + 1 + b.rows.length + 1) (c.rows ++ .nd :: s.rows) ((.e, o) :: st) = some st
    rw [runL_app, runB_sq c _ _ h.1.2]
    exact runB_sq s _ st h.2
theorem stepB_len {r : Nat} {row : Rw} {st st' : Stk} (h : stepB r row st = some st') : st'.length ≤ st.length + 1 := by
  cases row with
  | ifr e => cases h; exact Nat.le_refl _
  | whl e => cases h; exact Nat.le_refl _
  | els =>
    match st, h with
    | (.i, j) :: st0, h => cases h; exact Nat.le_succ _
  | nd =>
    match st, h with
    | x :: st0, h => cases h; rw [List.length_cons]; omega
  | set x e => cases h; exact Nat.le_succ _
  | call x g as => cases h; exact Nat.le_succ _
  | ret e => cases h; exact Nat.le_succ _
theorem Sq.rowsOk {s : Sq} (h : s.ok = true) (hl : s.size ≤ 1000) : RowsOk s.rows := by
  obtain ⟨f, f0, f1, f2⟩ := runL_seq (runB_sq s 0 [] h)
  have hlen : ∀ i, i ≤ s.rows.length → (f i).length ≤ i := by
    intro i
    induction i with
    | zero => intro _; rw [f0]; exact Nat.le_refl _
    | succ i ih =>
      intro hi
      have h1 := f2 i _ (List.getElem?_eq_getElem (by omega))
      rw [Nat.zero_add] at h1
      have h2 := stepB_len h1
      have h3 := ih (by omega)
      omega
  refine ⟨f, f0, f1 _ (Nat.le_refl _), fun i => ?_, fun i row e => by have := f2 i row e; rwa [Nat.zero_add] at this⟩
  rcases Nat.le_total i s.rows.length with hi | hi
  · have := hlen i hi
    rw [Sq.rows_len] at hi
    omega
  · rw [f1 i hi]
    exact Nat.zero_le _

/-! ### jumps_of's stack -/
theorem set_mid {α : Type} {xs zs : List α} {y v : α} {i : Nat} (h : i = xs.length) : (xs ++ y :: zs).set i v = xs ++ v :: zs := by
  subst h
  rw [List.set_append_right _ _ (Nat.le_refl _), Nat.sub_self]
  rfl
def stepP (R : List Rw) (r : Nat) (row : Rw) (s : List (Option Nat) × JSt) : Option (List (Option Nat) × JSt) := stepJ R r row s.1 s.2
theorem rep_app {n m : Nat} {zs : List (Option Nat)} : List.replicate (n + m) (none : Option Nat) ++ zs = List.replicate n none ++ (List.replicate m none ++ zs) := by
  rw [← List.replicate_append_replicate, List.append_assoc]
theorem rep_one {n : Nat} {zs : List (Option Nat)} : List.replicate (n + 1) (none : Option Nat) ++ zs = none :: (List.replicate n none ++ zs) := rfl
theorem runJ_sq (R : List Rw) : ∀ (s : Sq) (pre post : List (Option Nat)) (st : JSt), s.ok = true → Seg R pre.length s.rows →
    runL (stepP R) pre.length s.rows (pre ++ (List.replicate s.size none ++ post), st) = some (pre ++ (s.jm pre.length ++ post), st)
  | .nil, pre, post, st, _, _ => rfl
  | .plain r s, pre, post, st, h, hs => by
    simp only [Sq.ok, Bool.and_eq_true] at h
    have e : stepP R pre.length r (pre ++ (List.replicate (s.size + 1) none ++ post), st) = some (pre ++ (List.replicate (s.size + 1) none ++ post), st) := by cases r <;> first | rfl | (exact absurd h.1 Bool.false_ne_true)
    show (stepP R pre.length r (pre ++ (List.replicate (s.size + 1) none ++ post), st)).bind (runL (stepP R) (pre.length + 1) s.rows) = _
    rw [e]
    have ih := runJ_sq R s (pre ++ [none]) post st h.2 (by rw [List.length_append]; exact hs.2)
    rw [List.length_append] at ih
    simp only [List.append_assoc, List.singleton_append] at ih
    rw [rep_one]
    exact ih
  | .whl e b s, pre, post, st, h, hs => by
    simp only [Sq.ok, Bool.and_eq_true] at h
    obtain ⟨h0, hs⟩ := hs
    obtain ⟨hb, hs⟩ := AllF.app.mp hs
    obtain ⟨hn, hs⟩ := hs
    rw [Sq.rows_len] at hn hs
    show runL (stepP R) (pre.length + 1) (b.rows ++ .nd :: s.rows) (pre ++ (List.replicate (b.size + s.size + 2) none ++ post), (pre.length, none) :: st) = _
    have e1 : List.replicate (b.size + s.size + 2) (none : Option Nat) ++ post = none :: (List.replicate b.size none ++ (none :: (List.replicate s.size none ++ post))) := by
      rw [show b.size + s.size + 2 = (b.size + (s.size + 1)) + 1 by omega, rep_one, rep_app, rep_one]
    rw [e1, runL_app]
    have ihb := runJ_sq R b (pre ++ [none]) (none :: (List.replicate s.size none ++ post)) ((pre.length, none) :: st) h.1 (by rw [List.length_append]; exact hb)
    rw [List.length_append] at ihb
    simp only [List.append_assoc, List.singleton_append] at ihb
    rw [show pre.length + [(none : Option Nat)].length = pre.length + 1 from rfl] at ihb
    rw [ihb]
    show (stepP R (pre.length + 1 + b.rows.length) .nd (pre ++ (none :: (b.jm (pre.length + 1) ++ (none :: (List.replicate s.size none ++ post)))), (pre.length, none) :: st)).bind (runL (stepP R) (pre.length + 1 + b.rows.length + 1) s.rows) = _
    have hw : isWhl R pre.length = true := by unfold isWhl; rw [h0]; rfl
    have e2 : stepP R (pre.length + 1 + b.rows.length) .nd (pre ++ (none :: (b.jm (pre.length + 1) ++ (none :: (List.replicate s.size none ++ post)))), (pre.length, none) :: st) =
        some ((pre ++ (some (pre.length + b.size + 2) :: (b.jm (pre.length + 1) ++ [some pre.length]))) ++ (List.replicate s.size none ++ post), st) := by
      show some (((pre ++ (none :: (b.jm (pre.length + 1) ++ (none :: (List.replicate s.size none ++ post))))).set (pre.length + 1 + b.rows.length) (some (if isWhl R pre.length then pre.length else pre.length + 1 + b.rows.length + 1))).set pre.length (some (pre.length + 1 + b.rows.length + 1)), st) = _
      rw [hw, if_pos rfl]
      have e3 : pre ++ (none :: (b.jm (pre.length + 1) ++ (none :: (List.replicate s.size none ++ post)))) = (pre ++ none :: b.jm (pre.length + 1)) ++ none :: (List.replicate s.size none ++ post) := by simp
      rw [e3, set_mid (by rw [List.length_append, List.length_cons, Sq.jm_len, Sq.rows_len]; omega)]
      rw [show (pre ++ none :: b.jm (pre.length + 1)) ++ some pre.length :: (List.replicate s.size none ++ post) = pre ++ none :: (b.jm (pre.length + 1) ++ some pre.length :: (List.replicate s.size none ++ post)) by simp]
      rw [set_mid rfl, Sq.rows_len, show pre.length + 1 + b.size + 1 = pre.length + b.size + 2 by omega]
      simp
    rw [e2]
    have hl : (pre ++ (some (pre.length + b.size + 2) :: (b.jm (pre.length + 1) ++ [some pre.length]))).length = pre.length + b.size + 2 := by
      simp only [List.length_append, List.length_cons, List.length_nil, Sq.jm_len]
      omega
    have ihs := runJ_sq R s (pre ++ (some (pre.length + b.size + 2) :: (b.jm (pre.length + 1) ++ [some pre.length]))) post st h.2 (by rw [hl, show pre.length + b.size + 2 = pre.length + 1 + b.size + 1 by omega]; exact hs)
    rw [hl] at ihs
    rw [Sq.rows_len, show pre.length + 1 + b.size + 1 = pre.length + b.size + 2 by omega]
    refine Eq.trans ihs ?_
    simp only [Sq.jm, List.append_assoc, List.cons_append, List.nil_append]
  | .ife e b s, pre, post, st, h, hs => by
    simp only [Sq.ok, Bool.and_eq_true] at h
    obtain ⟨h0, hs⟩ := hs
    obtain ⟨hb, hs⟩ := AllF.app.mp hs
    obtain ⟨hn, hs⟩ := hs
    rw [Sq.rows_len] at hn hs
    show runL (stepP R) (pre.length + 1) (b.rows ++ .nd :: s.rows) (pre ++ (List.replicate (b.size + s.size + 2) none ++ post), (pre.length, none) :: st) = _
    have e1 : List.replicate (b.size + s.size + 2) (none : Option Nat) ++ post = none :: (List.replicate b.size none ++ (none :: (List.replicate s.size none ++ post))) := by
      rw [show b.size + s.size + 2 = (b.size + (s.size + 1)) + 1 by omega, rep_one, rep_app, rep_one]
    rw [e1, runL_app]
    have ihb := runJ_sq R b (pre ++ [none]) (none :: (List.replicate s.size none ++ post)) ((pre.length, none) :: st) h.1 (by rw [List.length_append]; exact hb)
    rw [List.length_append] at ihb
    simp only [List.append_assoc, List.singleton_append] at ihb
    rw [show pre.length + [(none : Option Nat)].length = pre.length + 1 from rfl] at ihb
    rw [ihb]
    show (stepP R (pre.length + 1 + b.rows.length) .nd (pre ++ (none :: (b.jm (pre.length + 1) ++ (none :: (List.replicate s.size none ++ post)))), (pre.length, none) :: st)).bind (runL (stepP R) (pre.length + 1 + b.rows.length + 1) s.rows) = _
    have hw : isWhl R pre.length = false := by unfold isWhl; rw [h0]; rfl
    have e2 : stepP R (pre.length + 1 + b.rows.length) .nd (pre ++ (none :: (b.jm (pre.length + 1) ++ (none :: (List.replicate s.size none ++ post)))), (pre.length, none) :: st) =
        some ((pre ++ (some (pre.length + b.size + 2) :: (b.jm (pre.length + 1) ++ [some (pre.length + b.size + 2)]))) ++ (List.replicate s.size none ++ post), st) := by
      show some (((pre ++ (none :: (b.jm (pre.length + 1) ++ (none :: (List.replicate s.size none ++ post))))).set (pre.length + 1 + b.rows.length) (some (if isWhl R pre.length then pre.length else pre.length + 1 + b.rows.length + 1))).set pre.length (some (pre.length + 1 + b.rows.length + 1)), st) = _
      rw [hw, if_neg Bool.false_ne_true]
      have e3 : pre ++ (none :: (b.jm (pre.length + 1) ++ (none :: (List.replicate s.size none ++ post)))) = (pre ++ none :: b.jm (pre.length + 1)) ++ none :: (List.replicate s.size none ++ post) := by simp
      rw [e3, set_mid (by rw [List.length_append, List.length_cons, Sq.jm_len, Sq.rows_len]; omega)]
      rw [show (pre ++ none :: b.jm (pre.length + 1)) ++ some (pre.length + 1 + b.rows.length + 1) :: (List.replicate s.size none ++ post) = pre ++ none :: (b.jm (pre.length + 1) ++ some (pre.length + 1 + b.rows.length + 1) :: (List.replicate s.size none ++ post)) by simp]
      rw [set_mid rfl, Sq.rows_len, show pre.length + 1 + b.size + 1 = pre.length + b.size + 2 by omega]
      simp
    rw [e2]
    have hl : (pre ++ (some (pre.length + b.size + 2) :: (b.jm (pre.length + 1) ++ [some (pre.length + b.size + 2)]))).length = pre.length + b.size + 2 := by
      simp only [List.length_append, List.length_cons, List.length_nil, Sq.jm_len]
      omega
    have ihs := runJ_sq R s (pre ++ (some (pre.length + b.size + 2) :: (b.jm (pre.length + 1) ++ [some (pre.length + b.size + 2)]))) post st h.2 (by rw [hl, show pre.length + b.size + 2 = pre.length + 1 + b.size + 1 by omega]; exact hs)
    rw [hl] at ihs
    rw [Sq.rows_len, show pre.length + 1 + b.size + 1 = pre.length + b.size + 2 by omega]
    refine Eq.trans ihs ?_
    simp only [Sq.jm, List.append_assoc, List.cons_append, List.nil_append]
  | .ifel e b c s, pre, post, st, h, hs => by
    simp only [Sq.ok, Bool.and_eq_true] at h
    obtain ⟨h0, hs⟩ := hs
    obtain ⟨hb, hs⟩ := AllF.app.mp hs
    obtain ⟨he, hs⟩ := hs
    obtain ⟨hc, hs⟩ := AllF.app.mp hs
    obtain ⟨hn, hs⟩ := hs
    rw [Sq.rows_len] at he hc hn hs
    rw [Sq.rows_len] at hn hs
    show runL (stepP R) (pre.length + 1) (b.rows ++ .els :: (c.rows ++ .nd :: s.rows)) (pre ++ (List.replicate (b.size + c.size + s.size + 3) none ++ post), (pre.length, none) :: st) = _
    have e1 : List.replicate (b.size + c.size + s.size + 3) (none : Option Nat) ++ post = none :: (List.replicate b.size none ++ (none :: (List.replicate c.size none ++ (none :: (List.replicate s.size none ++ post))))) := by
      rw [show b.size + c.size + s.size + 3 = (b.size + ((c.size + (s.size + 1)) + 1)) + 1 by omega, rep_one, rep_app, rep_one, rep_app, rep_one]
    rw [e1, runL_app]
    generalize hrest : List.replicate s.size (none : Option Nat) ++ post = rest
    have ihb := runJ_sq R b (pre ++ [none]) (none :: (List.replicate c.size none ++ (none :: rest))) ((pre.length, none) :: st) h.1.1 (by rw [List.length_append]; exact hb)
    rw [List.length_append] at ihb
    simp only [List.append_assoc, List.singleton_append] at ihb
    rw [show pre.length + [(none : Option Nat)].length = pre.length + 1 from rfl] at ihb
    rw [ihb]
    show (stepP R (pre.length + 1 + b.rows.length) .els (pre ++ (none :: (b.jm (pre.length + 1) ++ (none :: (List.replicate c.size none ++ (none :: rest))))), (pre.length, none) :: st)).bind (runL (stepP R) (pre.length + 1 + b.rows.length + 1) (c.rows ++ .nd :: s.rows)) = _
    have e2 : stepP R (pre.length + 1 + b.rows.length) .els (pre ++ (none :: (b.jm (pre.length + 1) ++ (none :: (List.replicate c.size none ++ (none :: rest))))), (pre.length, none) :: st) =
        some ((pre ++ (some (pre.length + b.size + 2) :: (b.jm (pre.length + 1) ++ [none]))) ++ (List.replicate c.size none ++ (none :: rest)), (pre.length, some (pre.length + b.size + 1)) :: st) := by
      show some ((pre ++ (none :: (b.jm (pre.length + 1) ++ (none :: (List.replicate c.size none ++ (none :: rest)))))).set pre.length (some (pre.length + 1 + b.rows.length + 1)), (pre.length, some (pre.length + 1 + b.rows.length)) :: st) = _
      rw [set_mid rfl, Sq.rows_len, show pre.length + 1 + b.size + 1 = pre.length + b.size + 2 by omega, show pre.length + 1 + b.size = pre.length + b.size + 1 by omega]
      simp
    rw [e2]
    have hl1 : (pre ++ (some (pre.length + b.size + 2) :: (b.jm (pre.length + 1) ++ [(none : Option Nat)]))).length = pre.length + b.size + 2 := by
      simp only [List.length_append, List.length_cons, List.length_nil, Sq.jm_len]
      omega
    rw [Sq.rows_len, show pre.length + 1 + b.size + 1 = pre.length + b.size + 2 by omega]
    show runL (stepP R) (pre.length + b.size + 2) (c.rows ++ .nd :: s.rows) ((pre ++ (some (pre.length + b.size + 2) :: (b.jm (pre.length + 1) ++ [none]))) ++ (List.replicate c.size none ++ (none :: rest)), (pre.length, some (pre.length + b.size + 1)) :: st) = _
    rw [runL_app]
    have ihc := runJ_sq R c (pre ++ (some (pre.length + b.size + 2) :: (b.jm (pre.length + 1) ++ [none]))) (none :: rest) ((pre.length, some (pre.length + b.size + 1)) :: st) h.1.2 (by rw [hl1, show pre.length + b.size + 2 = pre.length + 1 + b.size + 1 by omega]; exact hc)
    rw [hl1] at ihc
    rw [ihc]
    have hl2 : ∀ z : Option Nat, ((pre ++ (some (pre.length + b.size + 2) :: b.jm (pre.length + 1))) ++ z :: c.jm (pre.length + b.size + 2)).length = pre.length + b.size + c.size + 2 := fun z => by
      simp only [List.length_append, List.length_cons, Sq.jm_len]
      omega
    have hl3 : (pre ++ (some (pre.length + b.size + 2) :: b.jm (pre.length + 1))).length = pre.length + b.size + 1 := by
      simp only [List.length_append, List.length_cons, Sq.jm_len]
      omega
    show (stepP R (pre.length + b.size + 2 + c.rows.length) .nd ((pre ++ (some (pre.length + b.size + 2) :: (b.jm (pre.length + 1) ++ [none]))) ++ (c.jm (pre.length + b.size + 2) ++ (none :: rest)), (pre.length, some (pre.length + b.size + 1)) :: st)).bind (runL (stepP R) (pre.length + b.size + 2 + c.rows.length + 1) s.rows) = _
    have hw : isWhl R pre.length = false := by unfold isWhl; rw [h0]; rfl
    have e4 : stepP R (pre.length + b.size + 2 + c.rows.length) .nd ((pre ++ (some (pre.length + b.size + 2) :: (b.jm (pre.length + 1) ++ [none]))) ++ (c.jm (pre.length + b.size + 2) ++ (none :: rest)), (pre.length, some (pre.length + b.size + 1)) :: st) =
        some (((pre ++ (some (pre.length + b.size + 2) :: b.jm (pre.length + 1))) ++ (some (pre.length + b.size + c.size + 3) :: (c.jm (pre.length + b.size + 2) ++ [some (pre.length + b.size + c.size + 3)]))) ++ rest, st) := by
      show some ((((pre ++ (some (pre.length + b.size + 2) :: (b.jm (pre.length + 1) ++ [none]))) ++ (c.jm (pre.length + b.size + 2) ++ (none :: rest))).set (pre.length + b.size + 2 + c.rows.length) (some (if isWhl R pre.length then pre.length else pre.length + b.size + 2 + c.rows.length + 1))).set (pre.length + b.size + 1) (some (pre.length + b.size + 2 + c.rows.length + 1)), st) = _
      rw [hw, if_neg Bool.false_ne_true, Sq.rows_len, show pre.length + b.size + 2 + c.size + 1 = pre.length + b.size + c.size + 3 by omega]
      rw [show (pre ++ (some (pre.length + b.size + 2) :: (b.jm (pre.length + 1) ++ [none]))) ++ (c.jm (pre.length + b.size + 2) ++ (none :: rest)) = ((pre ++ (some (pre.length + b.size + 2) :: b.jm (pre.length + 1))) ++ none :: c.jm (pre.length + b.size + 2)) ++ none :: rest by simp]
      rw [set_mid (by rw [hl2]; omega)]
      rw [show ((pre ++ (some (pre.length + b.size + 2) :: b.jm (pre.length + 1))) ++ none :: c.jm (pre.length + b.size + 2)) ++ some (pre.length + b.size + c.size + 3) :: rest = (pre ++ (some (pre.length + b.size + 2) :: b.jm (pre.length + 1))) ++ none :: (c.jm (pre.length + b.size + 2) ++ some (pre.length + b.size + c.size + 3) :: rest) by simp]
      rw [set_mid hl3.symm]
      simp
    rw [e4]
    have hl4 : ((pre ++ (some (pre.length + b.size + 2) :: b.jm (pre.length + 1))) ++ (some (pre.length + b.size + c.size + 3) :: (c.jm (pre.length + b.size + 2) ++ [some (pre.length + b.size + c.size + 3)]))).length = pre.length + b.size + c.size + 3 := by
      simp only [List.length_append, List.length_cons, List.length_nil, Sq.jm_len]
      omega
    have ihs := runJ_sq R s ((pre ++ (some (pre.length + b.size + 2) :: b.jm (pre.length + 1))) ++ (some (pre.length + b.size + c.size + 3) :: (c.jm (pre.length + b.size + 2) ++ [some (pre.length + b.size + c.size + 3)]))) post st h.2 (by rw [hl4, show pre.length + b.size + c.size + 3 = pre.length + 1 + b.size + 1 + c.size + 1 by omega]; exact hs)
    rw [hl4, hrest] at ihs
    rw [Sq.rows_len, show pre.length + b.size + 2 + c.size + 1 = pre.length + b.size + c.size + 3 by omega]
    refine Eq.trans ihs ?_
    simp only [Sq.jm, List.append_assoc, List.cons_append, List.nil_append]
theorem stepJ_st {rows : List Rw} {r N : Nat} {row : Rw} {fd fd' : List (Option Nat)} {st st' : JSt} (h : stepJ rows r row fd st = some (fd', st')) (hr : r < N) (hs : ∀ x ∈ st, x.1 < N ∧ ∀ e, x.2 = some e → e < N) :
    st'.length ≤ st.length + 1 ∧ ∀ x ∈ st', x.1 < N ∧ ∀ e, x.2 = some e → e < N := by
  have push : ∀ x ∈ (r, (none : Option Nat)) :: st, x.1 < N ∧ ∀ e, x.2 = some e → e < N := fun x hx => by
    rcases List.mem_cons.mp hx with rfl | hx
    · exact ⟨hr, fun e he => by cases he⟩
    · exact hs x hx
  cases row with
  | ifr e => cases h; exact ⟨Nat.le_refl _, push⟩
  | whl e => cases h; exact ⟨Nat.le_refl _, push⟩
  | els =>
    match st, h with
    | (b, none) :: st0, h =>
      cases h
      refine ⟨Nat.le_succ _, fun x hx => ?_⟩
      rcases List.mem_cons.mp hx with rfl | hx
      · exact ⟨(hs _ List.mem_cons_self).1, fun e he => by cases he; exact hr⟩
      · exact hs x (List.mem_cons_of_mem _ hx)
  | nd =>
    match st, h with
    | (b, d) :: st0, h =>
      cases h
      exact ⟨by rw [List.length_cons]; omega, fun x hx => hs x (List.mem_cons_of_mem _ hx)⟩
  | set x e => cases h; exact ⟨Nat.le_succ _, hs⟩
  | call x g as => cases h; exact ⟨Nat.le_succ _, hs⟩
  | ret e => cases h; exact ⟨Nat.le_succ _, hs⟩
theorem Sq.jrun {s : Sq} (h : s.ok = true) (hl : s.size ≤ 1000) : JRun s.rows (s.jm 0) := by
  have hr := runJ_sq s.rows s [] [] [] h (seg_self _)
  obtain ⟨f, f0, f1, f2⟩ := runL_seq hr
  have hst : ∀ i, i ≤ s.rows.length → (f i).2.length ≤ i ∧ ∀ x ∈ (f i).2, x.1 < s.rows.length ∧ ∀ e, x.2 = some e → e < s.rows.length := by
    intro i
    induction i with
    | zero => intro _; rw [f0]; exact ⟨Nat.le_refl _, fun x hx => by cases hx⟩
    | succ i ih =>
      intro hi
      have h1 := f2 i _ (List.getElem?_eq_getElem (by omega))
      have h2 := stepJ_st (fd' := (f (i + 1)).1) (st' := (f (i + 1)).2) (N := s.rows.length) h1 (by simp only [List.length_nil]; omega) (ih (by omega)).2
      exact ⟨by have := (ih (by omega)).1; omega, h2.2⟩
  have hend := f1 _ (Nat.le_refl s.rows.length)
  refine ⟨fun i => (f i).2, fun i => (f i).1, (by show (f 0).2 = []; rw [f0]), ?_, ?_, fun i x hx => ?_, fun i => ?_, fun i row e => ?_⟩
  · show (f 0).1 = _
    rw [f0, List.nil_append, List.append_nil, Sq.rows_len]
  · show (f s.rows.length).1 = _
    rw [hend, List.nil_append, List.append_nil]
    rfl
  · rcases Nat.le_total i s.rows.length with hi | hi
    · exact (hst i hi).2 x hx
    · have hx : x ∈ (f i).2 := hx
      rw [f1 i hi] at hx
      cases hx
  · rcases Nat.le_total i s.rows.length with hi | hi
    · have := (hst i hi).1
      rw [Sq.rows_len] at hi
      show (f i).2.length ≤ 1000
      omega
    · show (f i).2.length ≤ 1000
      rw [f1 i hi]
      exact Nat.zero_le _
  · have := f2 i row e
    rw [List.length_nil, Nat.zero_add] at this
    exact this

/-! ### the jumps are right -/
theorem jm_bnd (js : List (Option Nat)) : ∀ (s : Sq) (o : Nat), s.ok = true → Seg js o (s.jm o) → AllF (fun k row => row.opn = true → ∃ u, js[k]? = some (some u) ∧ u ≤ o + s.size) o s.rows
  | .nil, o, _, _ => True.intro
  | .plain r s, o, h, hs => by
    simp only [Sq.ok, Bool.and_eq_true] at h
    refine ⟨fun z => ?_, ?_⟩
    · have := (opn_jmp z).1
      rw [this] at h
      exact absurd h.1 Bool.false_ne_true
    · refine AllF.imp (fun k row q z => ?_) (jm_bnd js s (o + 1) h.2 hs.2)
      obtain ⟨u, h1, h2⟩ := q z
      exact ⟨u, h1, by show u ≤ o + (s.size + 1); omega⟩
  | .whl e b s, o, h, hs => by
    simp only [Sq.ok, Bool.and_eq_true] at h
    obtain ⟨h0, hs⟩ := hs
    obtain ⟨hb, hs⟩ := AllF.app.mp hs
    obtain ⟨hn, hs⟩ := hs
    rw [Sq.jm_len] at hn hs
    rw [show o + 1 + b.size + 1 = o + b.size + 2 by omega] at hs
    refine ⟨fun _ => ⟨_, h0, by show o + b.size + 2 ≤ o + (b.size + s.size + 2); omega⟩, AllF.app.mpr ⟨?_, fun z => ?_, ?_⟩⟩
    · refine AllF.imp (fun k row q z => ?_) (jm_bnd js b (o + 1) h.1 hb)
      obtain ⟨u, h1, h2⟩ := q z
      exact ⟨u, h1, by show u ≤ o + (b.size + s.size + 2); omega⟩
    · cases z
    · rw [Sq.rows_len, show o + 1 + b.size + 1 = o + b.size + 2 by omega]
      refine AllF.imp (fun k row q z => ?_) (jm_bnd js s (o + b.size + 2) h.2 hs)
      obtain ⟨u, h1, h2⟩ := q z
      exact ⟨u, h1, by show u ≤ o + (b.size + s.size + 2); omega⟩
  | .ife e b s, o, h, hs => by
    simp only [Sq.ok, Bool.and_eq_true] at h
    obtain ⟨h0, hs⟩ := hs
    obtain ⟨hb, hs⟩ := AllF.app.mp hs
    obtain ⟨hn, hs⟩ := hs
    rw [Sq.jm_len] at hn hs
    rw [show o + 1 + b.size + 1 = o + b.size + 2 by omega] at hs
    refine ⟨fun _ => ⟨_, h0, by show o + b.size + 2 ≤ o + (b.size + s.size + 2); omega⟩, AllF.app.mpr ⟨?_, fun z => ?_, ?_⟩⟩
    · refine AllF.imp (fun k row q z => ?_) (jm_bnd js b (o + 1) h.1 hb)
      obtain ⟨u, h1, h2⟩ := q z
      exact ⟨u, h1, by show u ≤ o + (b.size + s.size + 2); omega⟩
    · cases z
    · rw [Sq.rows_len, show o + 1 + b.size + 1 = o + b.size + 2 by omega]
      refine AllF.imp (fun k row q z => ?_) (jm_bnd js s (o + b.size + 2) h.2 hs)
      obtain ⟨u, h1, h2⟩ := q z
      exact ⟨u, h1, by show u ≤ o + (b.size + s.size + 2); omega⟩
  | .ifel e b c s, o, h, hs => by
    simp only [Sq.ok, Bool.and_eq_true] at h
    obtain ⟨h0, hs⟩ := hs
    obtain ⟨hb, hs⟩ := AllF.app.mp hs
    obtain ⟨he, hs⟩ := hs
    obtain ⟨hc, hs⟩ := AllF.app.mp hs
    obtain ⟨hn, hs⟩ := hs
    rw [Sq.jm_len] at he hc hn hs
    rw [Sq.jm_len] at hn hs
    rw [show o + 1 + b.size + 1 = o + b.size + 2 by omega] at hc
    rw [show o + 1 + b.size + 1 + c.size + 1 = o + b.size + c.size + 3 by omega] at hs
    refine ⟨fun _ => ⟨_, h0, by show o + b.size + 2 ≤ o + (b.size + c.size + s.size + 3); omega⟩, AllF.app.mpr ⟨?_, fun z => ?_, AllF.app.mpr ⟨?_, fun z => ?_, ?_⟩⟩⟩
    · refine AllF.imp (fun k row q z => ?_) (jm_bnd js b (o + 1) h.1.1 hb)
      obtain ⟨u, h1, h2⟩ := q z
      exact ⟨u, h1, by show u ≤ o + (b.size + c.size + s.size + 3); omega⟩
    · rw [Sq.rows_len]
      exact ⟨_, he, by show o + b.size + c.size + 3 ≤ o + (b.size + c.size + s.size + 3); omega⟩
    · rw [Sq.rows_len, show o + 1 + b.size + 1 = o + b.size + 2 by omega]
      refine AllF.imp (fun k row q z => ?_) (jm_bnd js c (o + b.size + 2) h.1.2 hc)
      obtain ⟨u, h1, h2⟩ := q z
      exact ⟨u, h1, by show u ≤ o + (b.size + c.size + s.size + 3); omega⟩
    · cases z
    · rw [Sq.rows_len, Sq.rows_len, show o + 1 + b.size + 1 + c.size + 1 = o + b.size + c.size + 3 by omega]
      refine AllF.imp (fun k row q z => ?_) (jm_bnd js s (o + b.size + c.size + 3) h.2 hs)
      obtain ⟨u, h1, h2⟩ := q z
      exact ⟨u, h1, by show u ≤ o + (b.size + c.size + s.size + 3); omega⟩
/-- within the block that begins behind o -/
theorem ins_of {R : List Rw} {js : List (Option Nat)} {b : Sq} {o t : Nat} (h : b.ok = true) (hR : Seg R (o + 1) b.rows) (hJ : Seg js (o + 1) (b.jm (o + 1))) (ht : t = o + b.size + 2) : Ins R js o t := by
  intro k row h1 h2 hk ho
  have hb := jm_bnd js b (o + 1) h hJ
  obtain ⟨j, rfl⟩ : ∃ j, k = o + 1 + j := ⟨k - (o + 1), by omega⟩
  have hj : j < b.rows.length := by rw [Sq.rows_len]; omega
  have hrow : b.rows[j]? = some b.rows[j] := List.getElem?_eq_getElem hj
  have hRk := hR.get hrow
  rw [hk] at hRk
  cases hRk
  obtain ⟨u, h3, h4⟩ := hb.get hrow ho
  exact ⟨u, h3, by omega⟩
theorem jr_sq (R : List Rw) (js : List (Option Nat)) : ∀ (s : Sq) (o : Nat), s.ok = true → Seg R o s.rows → Seg js o (s.jm o) → o + s.size ≤ R.length → AllF (fun k row => JR R js k row) o s.rows
  | .nil, o, _, _, _, _ => True.intro
  | .plain r s, o, h, hR, hs, hl => by
    simp only [Sq.ok, Bool.and_eq_true] at h
    simp only [Sq.size] at hl
    refine ⟨?_, jr_sq R js s (o + 1) h.2 hR.2 hs.2 (by omega)⟩
    have h0 := hs.1
    cases r <;> first | exact h0 | (exact absurd h.1 Bool.false_ne_true)
  | .whl e b s, o, h, hR, hs, hl => by
    simp only [Sq.ok, Bool.and_eq_true] at h
    simp only [Sq.size] at hl
    obtain ⟨r0, hR⟩ := hR
    obtain ⟨rb, hR⟩ := AllF.app.mp hR
    obtain ⟨rn, hR⟩ := hR
    rw [Sq.rows_len] at rn hR
    obtain ⟨h0, hs⟩ := hs
    obtain ⟨hb, hs⟩ := AllF.app.mp hs
    obtain ⟨hn, hs⟩ := hs
    rw [Sq.jm_len] at hn hs
    rw [show o + 1 + b.size + 1 = o + b.size + 2 by omega] at hs hR
    have e1 : o + b.size + 2 - 1 = o + 1 + b.size := by omega
    refine ⟨?_, AllF.app.mpr ⟨jr_sq R js b (o + 1) h.1 rb hb (by omega), ?_, ?_⟩⟩
    · exact ⟨o + b.size + 2, h0, by omega, by omega, by rw [e1]; exact rn, by rw [e1]; exact hn, ins_of h.1 rb hb rfl⟩
    · rw [Sq.rows_len]
      exact ⟨o, hn, by omega, .inr ⟨by omega, ⟨e, r0⟩, by rw [h0]; congr 2; omega⟩⟩
    · rw [Sq.rows_len, show o + 1 + b.size + 1 = o + b.size + 2 by omega]
      exact jr_sq R js s (o + b.size + 2) h.2 hR hs (by omega)
  | .ife e b s, o, h, hR, hs, hl => by
    simp only [Sq.ok, Bool.and_eq_true] at h
    simp only [Sq.size] at hl
    obtain ⟨r0, hR⟩ := hR
    obtain ⟨rb, hR⟩ := AllF.app.mp hR
    obtain ⟨rn, hR⟩ := hR
    rw [Sq.rows_len] at rn hR
    obtain ⟨h0, hs⟩ := hs
    obtain ⟨hb, hs⟩ := AllF.app.mp hs
    obtain ⟨hn, hs⟩ := hs
    rw [Sq.jm_len] at hn hs
    rw [show o + 1 + b.size + 1 = o + b.size + 2 by omega] at hs hR
    have e1 : o + b.size + 2 - 1 = o + 1 + b.size := by omega
    refine ⟨?_, AllF.app.mpr ⟨jr_sq R js b (o + 1) h.1 rb hb (by omega), ?_, ?_⟩⟩
    · exact ⟨o + b.size + 2, o + b.size + 2, .nd, h0, by omega, by omega, by rw [e1]; exact rn, rfl, by rw [e1]; exact hn, Nat.le_refl _, ins_of h.1 rb hb rfl⟩
    · rw [Sq.rows_len]
      exact ⟨o + b.size + 2, hn, by omega, .inl (by omega)⟩
    · rw [Sq.rows_len, show o + 1 + b.size + 1 = o + b.size + 2 by omega]
      exact jr_sq R js s (o + b.size + 2) h.2 hR hs (by omega)
  | .ifel e b c s, o, h, hR, hs, hl => by
    simp only [Sq.ok, Bool.and_eq_true] at h
    simp only [Sq.size] at hl
    obtain ⟨r0, hR⟩ := hR
    obtain ⟨rb, hR⟩ := AllF.app.mp hR
    obtain ⟨re, hR⟩ := hR
    obtain ⟨rc, hR⟩ := AllF.app.mp hR
    obtain ⟨rn, hR⟩ := hR
    rw [Sq.rows_len] at re rc rn hR
    rw [Sq.rows_len] at rn hR
    obtain ⟨h0, hs⟩ := hs
    obtain ⟨hb, hs⟩ := AllF.app.mp hs
    obtain ⟨he, hs⟩ := hs
    obtain ⟨hc, hs⟩ := AllF.app.mp hs
    obtain ⟨hn, hs⟩ := hs
    rw [Sq.jm_len] at he hc hn hs
    rw [Sq.jm_len] at hn hs
    rw [show o + 1 + b.size + 1 = o + b.size + 2 by omega] at hc rc
    rw [show o + 1 + b.size + 1 + c.size = o + b.size + c.size + 2 by omega] at hn rn
    rw [show o + 1 + b.size + 1 + c.size + 1 = o + b.size + c.size + 3 by omega] at hs hR
    rw [show o + 1 + b.size = o + b.size + 1 by omega] at he re
    have e1 : o + b.size + 2 - 1 = o + b.size + 1 := by omega
    have e2 : o + b.size + c.size + 3 - 1 = o + b.size + c.size + 2 := by omega
    refine ⟨?_, AllF.app.mpr ⟨jr_sq R js b (o + 1) h.1.1 rb hb (by omega), ?_, AllF.app.mpr ⟨?_, ?_, ?_⟩⟩⟩
    · exact ⟨o + b.size + 2, o + b.size + c.size + 3, .els, h0, by omega, by omega, by rw [e1]; exact re, rfl, by rw [e1]; exact he, by omega, ins_of h.1.1 rb hb rfl⟩
    · rw [Sq.rows_len, show o + 1 + b.size = o + b.size + 1 by omega]
      refine ⟨o + b.size + c.size + 3, o, he, by omega, by omega, by rw [e2]; exact rn, by rw [e2]; exact hn, by omega, h0, ?_⟩
      exact ins_of h.1.2 rc hc (by omega)
    · rw [Sq.rows_len, show o + 1 + b.size + 1 = o + b.size + 2 by omega]
      exact jr_sq R js c (o + b.size + 2) h.1.2 rc hc (by omega)
    · rw [Sq.rows_len, Sq.rows_len, show o + 1 + b.size + 1 + c.size = o + b.size + c.size + 2 by omega]
      exact ⟨o + b.size + c.size + 3, hn, by omega, .inl (by omega)⟩
    · rw [Sq.rows_len, Sq.rows_len, show o + 1 + b.size + 1 + c.size + 1 = o + b.size + c.size + 3 by omega]
      exact jr_sq R js s (o + b.size + c.size + 3) h.2 hR hs (by omega)
theorem Sq.jok {s : Sq} (h : s.ok = true) (hl : s.size ≤ 1000) : JOk s.rows (s.jm 0) where
  run := Sq.jrun h hl
  len := by rw [Sq.jm_len, Sq.rows_len]
  at_ := fun r row e => by
    have h1 := (jr_sq s.rows (s.jm 0) s 0 h (seg_self _) (seg_self _) (by rw [Nat.zero_add, Sq.rows_len]; exact Nat.le_refl _)).get e
    rw [Nat.zero_add] at h1
    exact h1
end B9

/-! Plain facts: places ascend, how many there are. -/
namespace B9
open PySem PySem.Spec PyProof.Rows L2
open PyProof.Rows.G in
theorem lt3_nm {a b : K3} (h : a.1.cps.toList < b.1.cps.toList) : lt3 a b = true := by
  have hne : (Sum.inr a.1.cps.toList : Int ⊕ List Nat) ≠ Sum.inr b.1.cps.toList := fun e => by
    rw [Sum.inr.inj e] at h
    exact List.lt_irrefl _ h
  show lexLt itemOrd (Sum.inr a.1.cps.toList :: _) (Sum.inr b.1.cps.toList :: _) = true
  rw [lex_diff hne]
  exact decide_eq_true h
open PyProof.Rows.G in
theorem lt3_r {a b : K3} (e : a.1 = b.1) (h : a.2.1 < b.2.1) : lt3 a b = true := by
  have hne : (Sum.inl a.2.1 : Int ⊕ List Nat) ≠ Sum.inl b.2.1 := fun z => by
    rw [Sum.inl.inj z] at h
    omega
  show lexLt itemOrd (Sum.inr a.1.cps.toList :: Sum.inl a.2.1 :: _) (Sum.inr b.1.cps.toList :: Sum.inl b.2.1 :: _) = true
  rw [e, lex_self, lex_diff hne]
  exact decide_eq_true h
open PyProof.Rows.G in
theorem lt3_k {a b : K3} (e : a.1 = b.1) (e2 : a.2.1 = b.2.1) (h : a.2.2 < b.2.2) : lt3 a b = true := by
  have hne : (Sum.inl a.2.2 : Int ⊕ List Nat) ≠ Sum.inl b.2.2 := fun z => by
    rw [Sum.inl.inj z] at h
    omega
  show lexLt itemOrd (Sum.inr a.1.cps.toList :: Sum.inl a.2.1 :: Sum.inl a.2.2 :: _) (Sum.inr b.1.cps.toList :: Sum.inl b.2.1 :: Sum.inl b.2.2 :: _) = true
  rw [e, lex_self, e2, lex_self, lex_diff hne]
  exact decide_eq_true h
open PyProof.Rows.G in
theorem lt3_irr (a : K3) : lt3 a a = false := (listOrd itemOrd).irrefl (key3 a)
def Pl.key (x : Pl) : K3 := (x.nm, (x.r : Int), (x.k : Int))
theorem Fnc.asc (f : Fnc) : f.places.Pairwise fun x y => lt3 x.key y.key = true := by
  unfold Fnc.places
  rw [List.pairwise_flatten]
  constructor
  · intro l hl
    obtain ⟨i, hi, e⟩ := List.getElem_of_mem hl
    have hi' := hi
    rw [Fnc.plss_len] at hi'
    have h1 := Fnc.plss_at (f := f) (List.getElem?_eq_getElem hi')
    rw [List.getElem?_eq_getElem hi, e] at h1
    cases h1
    unfold rowPl
    rw [List.pairwise_map]
    refine List.pairwise_lt_range.imp ?_
    intro a b h
    exact lt3_k rfl rfl (by show ((a : Nat) : Int) < (b : Nat); omega)
  · rw [List.pairwise_iff_getElem]
    intro i j hi hj hij x hx y hy
    have nmr : ∀ (m : Nat) (hm : m < f.plss.length) (z : Pl), z ∈ f.plss[m] → z.nm = f.nm ∧ z.r = m := fun m hm z hz => by
      have hm' := hm
      rw [Fnc.plss_len] at hm'
      have h1 := Fnc.plss_at (f := f) (List.getElem?_eq_getElem hm')
      rw [List.getElem?_eq_getElem hm] at h1
      have h2 := Option.some.inj h1
      rw [h2] at hz
      unfold rowPl at hz
      obtain ⟨k, _, rfl⟩ := List.mem_map.mp hz
      exact ⟨rfl, rfl⟩
    obtain ⟨x1, x2⟩ := nmr i hi x hx
    obtain ⟨y1, y2⟩ := nmr j hj y hy
    exact lt3_r (by show x.nm = y.nm; rw [x1, y1]) (by show ((x.r : Nat) : Int) < (y.r : Nat); omega)
theorem Fnc.places_nm {f : Fnc} {x : Pl} (h : x ∈ f.places) : x.nm = f.nm := (Fnc.mem_places.mp h).1.symm
theorem PgW.places_asc {p : Pg} (h : PgW p) : p.places.Pairwise fun x y => lt3 x.key y.key = true := by
  unfold Pg.places
  rw [List.flatMap, List.pairwise_flatten]
  constructor
  · intro l hl
    obtain ⟨f, _, rfl⟩ := List.mem_map.mp hl
    exact f.asc
  · rw [List.pairwise_map]
    refine h.asc.imp fun {f g} l x hx y hy => lt3_nm ?_
    show x.nm.cps.toList < y.nm.cps.toList
    rw [Fnc.places_nm hx, Fnc.places_nm hy]
    exact l
theorem PgW.places_ne {p : Pg} (h : PgW p) {i : Nat} {x y : Pl} (hx : p.places[i]? = some x) (hy : p.places[i + 1]? = some y) : x ≠ y := by
  intro e
  subst e
  obtain ⟨h1, e1⟩ := List.getElem?_eq_some_iff.mp hx
  obtain ⟨h2, e2⟩ := List.getElem?_eq_some_iff.mp hy
  have h3 := List.pairwise_iff_getElem.mp h.places_asc i (i + 1) h1 h2 (by omega)
  rw [e1, e2, lt3_irr] at h3
  cases h3
theorem Pl.eqv_false {x y : Pl} (h : x ≠ y) : PyData.eqv x.d y.d = false := by
  cases e : PyData.eqv x.d y.d with
  | false => rfl
  | true =>
    exfalso
    apply h
    simp only [Pl.d, PyData.eqv, PyData.eqvAll, Bool.and_eq_true, beq_iff_eq, Bool.and_true] at e
    obtain ⟨e1, e2, e3⟩ := e
    cases x
    cases y
    simp only at e1 e2 e3
    subst e1
    have e2' := Int.ofNat.inj e2
    have e3' := Int.ofNat.inj e3
    rw [e2', e3']

/-! ### how many -/
def Fnc.due (f : Fnc) : Int := (f.rows.map fun r => (r.parts.length : Int)).sum
theorem sum_mapIdx {α : Type} (g : α → Nat) : ∀ (l : List α) (h : Nat → α → List Pl), (∀ i a, (h i a).length = g a) → ((l.mapIdx h).flatten.length : Int) = (l.map fun a => (g a : Int)).sum
  | [], h, _ => by simp
  | a :: l, h, e => by
    rw [List.mapIdx_cons, List.flatten_cons, List.length_append, e, List.map_cons, List.sum_cons]
    have := sum_mapIdx g l (fun i => h (i + 1)) fun i a => e (i + 1) a
    omega
theorem Fnc.places_len (f : Fnc) : (f.places.length : Int) = f.due := by
  unfold Fnc.places Fnc.plss Fnc.due
  exact sum_mapIdx (fun r : Rw => r.parts.length) f.rows (fun i r => rowPl f.nm i r) fun i r => rowPl_len _ _ _
theorem Pg.places_len (p : Pg) : (p.places.length : Int) = p.count := by
  unfold Pg.places Pg.count Pg.cnts Pg.rows
  induction p.fns with
  | nil => rfl
  | cons f fs ih =>
    rw [List.flatMap_cons, List.flatMap_cons, List.length_append, List.map_append, List.sum_append]
    have := f.places_len
    unfold Fnc.due at this
    omega
theorem filter_none {f : Fnc} : ∀ {fs : List Fnc}, (∀ g ∈ fs, g.nm ≠ f.nm) → (fs.flatMap Fnc.places).filter (fun x => decide (x.nm = f.nm)) = []
  | [], _ => rfl
  | g :: fs, h => by
    rw [List.flatMap_cons, List.filter_append, filter_none fun g' hg => h g' (List.mem_cons_of_mem _ hg), List.append_nil, List.filter_eq_nil_iff]
    intro x hx e
    exact h g List.mem_cons_self (by rw [← Fnc.places_nm hx]; exact of_decide_eq_true e)
theorem filter_one {f : Fnc} : ∀ {fs : List Fnc}, (fs.map (·.nm)).Nodup → f ∈ fs → (fs.flatMap Fnc.places).filter (fun x => decide (x.nm = f.nm)) = f.places
  | [], _, h => by cases h
  | g :: fs, hn, h => by
    rw [List.map_cons, List.nodup_cons] at hn
    rw [List.flatMap_cons, List.filter_append]
    rcases List.mem_cons.mp h with rfl | h
    · rw [filter_none fun g' hg e => hn.1 (List.mem_map.mpr ⟨g', hg, e⟩), List.append_nil, List.filter_eq_self.mpr]
      intro x hx
      exact decide_eq_true (Fnc.places_nm hx)
    · rw [filter_one hn.2 h]
      have : g.places.filter (fun x => decide (x.nm = f.nm)) = [] := by
        rw [List.filter_eq_nil_iff]
        intro x hx e
        refine hn.1 (List.mem_map.mpr ⟨f, h, ?_⟩)
        rw [← Fnc.places_nm hx]
        exact (of_decide_eq_true e).symm
      rw [this, List.nil_append]
theorem PgW.filter {p : Pg} (h : PgW p) {f : Fnc} (hf : f ∈ p.fns) : ((p.places.filter fun x => decide (x.nm = f.nm)).length : Int) = f.due := by
  unfold Pg.places
  rw [filter_one h.nd hf]
  exact f.places_len
/-- a good program: whatever the law asks, it answers -/
structure Good (p : Pg) : Prop where
  w : PgW p
  j : ∀ f ∈ p.fns, ∃ js, JOk f.rows js
end B9

/-! The feed, the draw. -/
namespace B9
open PySem PySem.Spec PyProof.Rows L2

abbrev kC : Key := .inr "cells"
abbrev kA : Key := .inr "at"
abbrev kL : Key := .inr "left"
abbrev kN : Key := .inr "count"
theorem k_ne : kC ≠ kA ∧ kC ≠ kL ∧ kC ≠ kN ∧ kA ≠ kL ∧ kA ≠ kN ∧ kL ≠ kN := by decide +kernel
def fdK (la : Addr) (a l c : Int) : List (Key × V) := [(kC, .ref la), (kA, .int a), (kL, .int l), (kN, .int c)]
section
variable {la : Addr} {a l c x : Int}
theorem fd_nd : ((fdK la a l c).map (·.1)).Nodup := (by decide +kernel : [kC, kA, kL, kN].Nodup)
theorem fd_c : valV (fdK la a l c) kC = some (.ref la) := valV_at (i := 0) fd_nd rfl
theorem fd_a : valV (fdK la a l c) kA = some (.int a) := valV_at (i := 1) fd_nd rfl
theorem fd_l : valV (fdK la a l c) kL = some (.int l) := valV_at (i := 2) fd_nd rfl
theorem fd_n : valV (fdK la a l c) kN = some (.int c) := valV_at (i := 3) fd_nd rfl
theorem put_in {kvs : List (Key × V)} {k : Key} {v w : V} (h : valV kvs k = some w) : putK kvs k v = kvs.map fun kv => if kv.1 = k then (kv.1, v) else kv := by
  unfold putK
  rw [valV_any, h]
  rfl
theorem put_a : putK (fdK la a l c) kA (.int x) = fdK la x l c := by
  obtain ⟨h1, h2, h3, h4, h5, h6⟩ := k_ne
  rw [put_in fd_a]
  simp [fdK, h1, h4.symm, h5.symm]
theorem put_l : putK (fdK la a l c) kL (.int x) = fdK la a x c := by
  obtain ⟨h1, h2, h3, h4, h5, h6⟩ := k_ne
  rw [put_in fd_l]
  simp [fdK, h2, h4, h6.symm]
theorem put_n : putK (fdK la a l c) kN (.int x) = fdK la a l x := by
  obtain ⟨h1, h2, h3, h4, h5, h6⟩ := k_ne
  rw [put_in fd_n]
  simp [fdK, h3, h5, h6]
end
def Fd (H : Hp) (fa la : Addr) (a l c : Int) (ms : List Int) : Prop := H fa = some (.dK (fdK la a l c)) ∧ H la = some (.lst (ms.map V.int)) ∧ ms.length ≤ 63
/-- the feed stands: its own place, its cells' place -/
def FeedAt (H : Hp) (fa : Addr × Addr) : Prop := ∃ a l c ms, Fd H fa.1 fa.2 a l c ms
section
variable {H G : Hp} {fa la : Addr} {a l c x : Int} {ms : List Int}
theorem Fd.ne (f : Fd H fa la a l c ms) : la ≠ fa := fun z => by
  have h := f.2.1
  rw [z, f.1] at h
  cases h
theorem Fd.upd (f : Fd H fa la a l c ms) {a' l' c' : Int} {kvs : List (Key × V)} (e : kvs = fdK la a' l' c') : Fd (L2.upd H fa (.dK kvs)) fa la a' l' c' ms := by
  subst e
  refine ⟨upd_same, ?_, f.2.2⟩
  rw [upd_ne f.ne]
  exact f.2.1
theorem Fd.put_a (f : Fd H fa la a l c ms) (x : Int) : ∃ G, DPut H fa (.str "at") (.int x) G ∧ Fd G fa la x l c ms ∧ But fa H G :=
  ⟨_, DPut.k (k := kA) f.1 (small1000 (by show 4 ≤ 1000; decide)), f.upd B9.put_a, but_upd⟩
theorem Fd.put_l (f : Fd H fa la a l c ms) (x : Int) : ∃ G, DPut H fa (.str "left") (.int x) G ∧ Fd G fa la a x c ms ∧ But fa H G :=
  ⟨_, DPut.k (k := kL) f.1 (small1000 (by show 4 ≤ 1000; decide)), f.upd B9.put_l, but_upd⟩
theorem Fd.put_n (f : Fd H fa la a l c ms) (x : Int) : ∃ G, DPut H fa (.str "count") (.int x) G ∧ Fd G fa la a l x ms ∧ But fa H G :=
  ⟨_, DPut.k (k := kN) f.1 (small1000 (by show 4 ≤ 1000; decide)), f.upd B9.put_n, but_upd⟩
theorem Fd.g_c (f : Fd H fa la a l c ms) : DGet H fa (.str "cells") (some (.ref la)) := by rw [← fd_c]; exact DGet.k (k := kC) f.1
theorem Fd.g_a (f : Fd H fa la a l c ms) : DGet H fa (.str "at") (some (.int a)) := by rw [← fd_a]; exact DGet.k (k := kA) f.1
theorem Fd.g_l (f : Fd H fa la a l c ms) : DGet H fa (.str "left") (some (.int l)) := by rw [← fd_l]; exact DGet.k (k := kL) f.1
theorem Fd.g_n (f : Fd H fa la a l c ms) : DGet H fa (.str "count") (some (.int c)) := by rw [← fd_n]; exact DGet.k (k := kN) f.1
theorem Fd.same (f : Fd H fa la a l c ms) (s : Same H G) : Fd G fa la a l c ms := ⟨s _ _ f.1, s _ _ f.2.1, f.2.2⟩
theorem FeedAt.same {fa : Addr × Addr} (f : FeedAt H fa) (s : Same H G) : FeedAt G fa := by
  obtain ⟨a, l, c, ms, f⟩ := f
  exact ⟨a, l, c, ms, f.same s⟩
theorem FeedAt.dk {fa : Addr × Addr} (f : FeedAt H fa) : ∃ kvs, H fa.1 = some (.dK kvs) := by
  obtain ⟨a, l, c, ms, f1, _⟩ := f
  exact ⟨_, f1⟩
theorem FeedAt.cl {fa : Addr × Addr} (f : FeedAt H fa) : ∃ zs, H fa.2 = some (.lst zs) := by
  obtain ⟨a, l, c, ms, _, f2, _⟩ := f
  exact ⟨_, f2⟩
/-- another thing than the feed and its cells changes -/
theorem FeedAt.other {fa : Addr × Addr} {b : Addr} {o : HO} (f : FeedAt H fa) (n1 : b ≠ fa.1) (n2 : b ≠ fa.2) : FeedAt (L2.upd H b o) fa := by
  obtain ⟨a, l, c, ms, f1, f2, f3⟩ := f
  refine ⟨a, l, c, ms, ?_, ?_, f3⟩
  · rw [upd_ne (Ne.symm n1)]
    exact f1
  · rw [upd_ne (Ne.symm n2)]
    exact f2
end
/-- all but the feed stays, the feed stands -/
def Fr (fa : Addr × Addr) (H H' : Hp) : Prop := But fa.1 H H' ∧ FeedAt H' fa
section
variable {K : PySem.W.Frag} {fa : Addr × Addr} {H H1 H2 : Hp}
theorem Fr.tsm (x : Fr fa H H1) (f : FeedAt H fa) : TSm K H H1 := by
  obtain ⟨kvs, e⟩ := f.dk
  exact x.1.tsm e rfl
theorem Fr.trans (x : Fr fa H H1) (y : Fr fa H1 H2) : Fr fa H H2 := ⟨x.1.trans y.1, y.2⟩
theorem Fr.refl (f : FeedAt H fa) : Fr fa H H := ⟨But.refl, f⟩
theorem Fr.of_same (f : FeedAt H fa) (s : Same H H1) : Fr fa H H1 := ⟨s.but, f.same s⟩
theorem Fr.same (x : Fr fa H H1) (s : Same H1 H2) : Fr fa H H2 := x.trans (Fr.of_same x.2 s)
/-- what is no dict stays -/
theorem Fr.keep {b : Addr} {o : HO} (x : Fr fa H H1) (f : FeedAt H fa) (e : H b = some o) (n : ∀ kvs, o ≠ .dK kvs) : H1 b = some o := by
  obtain ⟨kvs, e2⟩ := f.dk
  refine x.1 b o (fun z => ?_) e
  rw [z, e2] at e
  exact n _ (Option.some.inj e).symm
theorem Fr.lst {b : Addr} {zs : List V} (x : Fr fa H H1) (f : FeedAt H fa) (e : H b = some (.lst zs)) : H1 b = some (.lst zs) := x.keep f e fun _ z => by cases z
theorem Fr.gone {b : Addr} (x : Fr fa H H1) (e : H1 b = none) : H b = none := by
  obtain ⟨kvs1, e3⟩ := x.2.dk
  cases h : H b with
  | none => rfl
  | some o =>
    have hb : b ≠ fa.1 := fun z => by rw [z, e3] at e; cases e
    rw [x.1 b o hb h] at e
    cases e
/-- a thing made since then changes -/
theorem Fr.put {b : Addr} {o : HO} (x : Fr fa H H1) (f : FeedAt H fa) (n : H b = none) : Fr fa H (L2.upd H1 b o) := by
  obtain ⟨kvs, e2⟩ := f.dk
  obtain ⟨zs, e3⟩ := f.cl
  refine ⟨fun c ob hc e => ?_, x.2.other (fun z => by rw [z, e2] at n; cases n) fun z => by rw [z, e3] at n; cases n⟩
  rw [upd_ne (ne_of_none e n)]
  exact x.1 c ob hc e
end

/-! ### comprehensions, loops that draw -/
def PvN {α : Type} (K : PySem.W.Frag) (fa : Addr × Addr) (S : Hp) (D : Addr) (f : α → PyData) (G : α → Prop) (i : Nat) (H : Hp) : Prop :=
  Fr fa S H ∧ ∃ (es : List α) (ys : List V), es.length = i ∧ H D = some (.lst ys) ∧ TpAll K H ys (es.map f) ∧ ∀ e ∈ es, G e
section
variable {α : Type} {K : PySem.W.Frag} {fa : Addr × Addr} {S : Hp} {D : Addr} {f : α → PyData} {G : α → Prop} {i : Nat} {H H' : Hp} {v : V} {e : α}
theorem PvN.zero (hf : FeedAt S fa) (n : S D = none) : PvN K fa S D f G 0 (upd S D (.lst [])) :=
  ⟨(Fr.refl hf).put hf n, [], [], rfl, upd_same, .nil, fun e he => by cases he⟩
theorem PvN.step (hf : FeedAt S fa) (n : S D = none) (p : PvN K fa S D f G i H) (hi : i < 1000000) (x : Fr fa H H') (tv : Tp K H' v (f e)) (g : G e) :
    ∃ acc, H' D = some (.lst acc) ∧ acc.length < sizeLine ∧ PvN K fa S D f G (i + 1) (upd H' D (.lst (acc ++ [v]))) := by
  obtain ⟨fr, es, ys, hl, ey, hy, hg⟩ := p
  have ey' := x.lst fr.2 ey
  have t1 : TSm K H H' := x.tsm fr.2
  have t2 : TSm K H' (upd H' D (.lst (ys ++ [v]))) := tsm_upd ey' rfl
  refine ⟨ys, ey', ?_, (fr.trans x).put hf n, es ++ [e], ys ++ [v], by simp [hl], upd_same, ?_, fun z hz => ?_⟩
  · rw [hy.length, List.length_map, hl]
    exact Nat.lt_trans hi big6
  · rw [List.map_append]
    exact (hy.mono (t1.trans t2)).append (.cons (tv.mono t2) .nil)
  · rcases List.mem_append.mp hz with hz | hz
    · exact hg z hz
    · rcases List.mem_singleton.mp hz with rfl
      exact g
end

section
variable {P : Program} {w : World} {K : PySem.W.Frag} {mg : Str → Option Value} {base : Heap}
def spFeed (K : PySem.W.Frag) : Sp := fun vs H Q _ => ∃ (sa : Addr) (ns : List Int), vs = [.ref sa] ∧ SqL K H sa (ns.map V.int) ∧ ns.length ≤ 63 ∧ ∀ (fa : Addr × Addr) H', Same H H' → H fa.1 = none → FeedAt H' fa → Q (.ref fa.1) H'
theorem h__law_feed (D : Dfs w K mg) : Has P w K mg base 1 "_law_feed" (spFeed K) := by
  refine D.f__law_feed.has sc__law_feed (fun vs H Q E h => ?_) (fun f cdv A outer s H vs Q E hr h => ?_)
  · obtain ⟨sa, ns, rfl, _⟩ := h
    rfl
  · obtain ⟨sa, ns, rfl, hS, hl, q⟩ := h
    refine ⟨_, (pss_one (ps_ret (pe_disp (pps_cons pe_str (pe_callTy call_list_of (by rfl) D.b_list (by decide +kernel) (pa_cons (pe_slice sl_list (pv 0) po_none (po_some pe_int)) pa_nil)) (pps_cons pe_str pe_int (pps_cons pe_str pe_int (pps_cons pe_str pe_int pps_nil)))) (by rfl) (by rfl) (fun z => by cases z) (by decide)))), ?_⟩
    refine fun p np => ?_
    have s1 : Same H (upd H p (.dK [])) := same_upd np
    have ep : (upd H p (.dK [])) p = some (.dK []) := upd_same
    generalize upd H p (.dK []) = H1 at s1 ep
    refine ⟨_, rfl, 63, rfl, sa, _, rfl, s1.seq hS, fun p2 n2 => ?_⟩
    have s2 : Same H1 (upd H1 p2 (.lst (cutV (ns.map V.int) none (some 63)))) := same_upd n2
    have e2 : (upd H1 p2 (.lst (cutV (ns.map V.int) none (some 63)))) p2 = some (.lst (ns.map V.int)) := by
      rw [upd_same]
      unfold cutV
      rw [HT.sIx_none, show HT.sIx (ns.map V.int).length (ns.map V.int).length (some 63) = min 63 (ns.map V.int).length from HT.sIx_nat _ _ 63, List.drop_zero, Nat.sub_zero, List.take_of_length_le]
      rw [List.length_map]
      omega
    generalize upd H1 p2 (.lst (cutV (ns.map V.int) none (some 63))) = H2 at s2 e2
    refine ⟨p2, _, rfl, .inl (.of e2), fun l nl => ?_⟩
    have s3 : Same H2 (upd H2 l (.lst (ns.map V.int))) := same_upd nl
    have e3 : (upd H2 l (.lst (ns.map V.int))) l = some (.lst (ns.map V.int)) := upd_same
    generalize upd H2 l (.lst (ns.map V.int)) = H3 at s3 e3
    have ep3 := s3 _ _ (s2 _ _ ep)
    refine ⟨ep3, fdK l 0 0 0, rfl, (by show 4 ≤ 15; decide), ?_⟩
    have em : mergeK [] (fdK l 0 0 0) = fdK l 0 0 0 := mergeK_app (kvs := []) fd_nd
    rw [em]
    have nlp : l ≠ p := fun z => by rw [z, ep3] at e3; cases e3
    refine q (p, l) _ (same_at np (s1.trans (s2.trans s3))) np ⟨0, 0, 0, ns, upd_same, ?_, hl⟩
    rw [upd_ne nlp]
    exact e3
/-! ### _law_draw -/
def spDraw : Sp := fun vs H Q _ => ∃ (fa : Addr × Addr) (m : Int), vs = [.ref fa.1, .int m] ∧ FeedAt H fa ∧ 0 < m ∧ m < 1073741824 ∧ ∀ (n : Nat) H', (n : Int) < m → Fr fa H H' → Q (.int n) H'
theorem emod_nat {x m : Int} (h : 0 < m) : ∃ n : Nat, x % m = n ∧ (n : Int) < m := by
  have h1 := Int.emod_nonneg x (by omega : m ≠ 0)
  have h2 := Int.emod_lt_of_pos x h
  exact ⟨(x % m).toNat, by omega, by omega⟩
theorem h__law_draw (D : Dfs w K mg) : Has P w K mg base 1 "_law_draw" spDraw := by
  refine D.f__law_draw.has sc__law_draw (fun vs H Q E h => ?_) (fun f cdv A outer s H vs Q E hr h => ?_)
  · obtain ⟨fa, m, rfl, _⟩ := h
    rfl
  · obtain ⟨fa, m, rfl, hF, h0, h30, q⟩ := h
    have hu := hu_of hr
    refine ⟨_, (pss_cons (ps_dput hu (pv 0) pe_str (pe_op op_add (pe_dget hu (pv 0) pe_str (fun _ _ => rfl)) pe_int) (by rfl))
      (pss_cons (ps_if (pt_cmpR op_gt (pe_dget hu (pv 0) pe_str (fun _ _ => rfl)) pe_int (nomark _)) (pss_cons (ps_set (i := 2) sc__law_draw.nd rfl (.inl rfl) (pe_op op_mod (pe_callTy call_int1 (by rfl) D.b_int (by decide +kernel) (pa_cons (pe_dget hu (pv 0) pe_str (fun _ _ => rfl)) pa_nil)) (pv 1)))
      (pss_cons (ps_dput hu (pv 0) pe_str (pe_op op_fdiv (pe_dget hu (pv 0) pe_str (fun _ _ => rfl)) (pv 1)) (by rfl))
      (pss_one (ps_ret (pv 2))))) pss_nil)
      (pss_cons (ps_set (i := 3) sc__law_draw.nd rfl (.inl rfl) (pe_dget hu (pv 0) pe_str (fun _ _ => rfl)))
      (pss_cons (ps_dput hu (pv 0) pe_str (pe_op op_add (pv 3) pe_int) (by rfl))
      (pss_cons (ps_set (i := 4) sc__law_draw.nd rfl (.inl rfl) (pe_ifExp (pt_cmpR (op_neD hr.units) (pe_dget hu (pv 0) pe_str (fun _ _ => rfl)) (pe_lst pa_nil) (nomark _)) (pe_ix ix_list (pe_dget hu (pv 0) pe_str (fun _ _ => rfl)) (pe_op op_mod (pe_callTy call_int1 (by rfl) D.b_int (by decide +kernel) (pa_cons (pv 3) pa_nil)) (pe_callB call_len (by rfl) D.b_len (by decide +kernel) (pa_cons (pe_dget hu (pv 0) pe_str (fun _ _ => rfl)) pa_nil))) (fun _ _ => rfl)) pe_int))
      (pss_cons (ps_if (PW.pt (pw_and (pt_cmpR op_ge (pv 4) (pe_op op_pow pe_int pe_int) (nomark _)) (pw_and1 (pt_cmpR op_lt (pv 3) (pe_callB call_len (by rfl) D.b_len (by decide +kernel) (pa_cons (pe_dget hu (pv 0) pe_str (fun _ _ => rfl)) pa_nil)) (nomark _))))) (pss_cons (ps_dput hu (pv 0) pe_str (pe_op op_fdiv (pv 4) (pv 1)) (by rfl))
      (pss_one (ps_ret (pe_op op_mod (pe_callTy call_int1 (by rfl) D.b_int (by decide +kernel) (pa_cons (pv 4) pa_nil)) (pv 1))))) pss_nil)
      (pss_cons (ps_set (i := 5) sc__law_draw.nd rfl (.inl rfl) (pe_op op_mod (pe_callTy call_int1 (by rfl) D.b_int (by decide +kernel) (pa_cons (pe_op op_add (pe_op op_add (pe_op op_mod (pe_callTy call_int1 (by rfl) D.b_int (by decide +kernel) (pa_cons (pv 4) pa_nil)) pe_int) (pe_op op_mul pe_int (pe_dget hu (pv 0) pe_str (fun _ _ => rfl)))) pe_int) pa_nil)) pe_int))
      (pss_cons (ps_set (i := 5) sc__law_draw.nd rfl (.inl rfl) (pe_op op_mod (pe_callTy call_int1 (by rfl) D.b_int (by decide +kernel) (pa_cons (pe_op op_add (pe_op op_add (pe_op op_mul (pv 5) (pv 5)) (pe_op op_mul pe_int (pe_dget hu (pv 0) pe_str (fun _ _ => rfl)))) pe_int) pa_nil)) pe_int))
      (pss_one (ps_ret (pe_op op_mod (pe_callTy call_int1 (by rfl) D.b_int (by decide +kernel) (pa_cons (pe_op op_fdiv (pe_op op_mod (pe_callTy call_int1 (by rfl) D.b_int (by decide +kernel) (pa_cons (pe_op op_add (pe_op op_mul (pv 5) (pv 5)) (pe_op op_mul pe_int (pv 5))) pa_nil)) pe_int) pe_int) pa_nil)) (pv 1)))))))))))), ?_⟩
    obtain ⟨fa, la⟩ := fa
    obtain ⟨a, l, c, ms, f0⟩ := hF
    have q' : ∀ (x : Int) (H' : Hp), Fr (fa, la) H H' → Q (.int (x % m)) H' := fun x H' fr => by
      obtain ⟨n, en, hn⟩ := emod_nat (x := x) h0
      rw [en]
      exact q n H' hn fr
    -- feed["count"] = feed["count"] + 1
    obtain ⟨H1, p1, f1, b1⟩ := f0.put_n (c + 1)
    refine ⟨_, rfl, fa, _, rfl, f0.g_n, _, _, rfl, rfl, _, rfl, fa, H1, rfl, p1, ?_⟩
    -- if feed["left"] > 0
    refine ⟨_, rfl, fa, _, rfl, f1.g_l, _, _, rfl, rfl, _, rfl, ite2 (fun _ => ?_) (fun _ => ?_)⟩
    · obtain ⟨H2, p2, f2, b2⟩ := f1.put_l (l / m)
      exact ⟨_, rfl, fa, _, rfl, f1.g_l, .inl ⟨_, rfl, _, rfl, _, _, rfl, rfl, h0, _, rfl, fa, _, rfl, f1.g_l, _, rfl, _, _, rfl, rfl, ⟨h0, h30⟩, _, rfl, fa, H2, rfl, p2, _, rfl, q' _ H2 ⟨b1.trans b2, _, _, _, _, f2⟩⟩⟩
    · -- at
      obtain ⟨H2, p2, f2, b2⟩ := f1.put_a (a + 1)
      refine ⟨_, rfl, fa, _, rfl, f1.g_a, ?_⟩
      refine ⟨_, rfl, _, _, rfl, rfl, _, rfl, fa, H2, rfl, p2, ?_⟩
      -- the cell
      refine ⟨_, rfl, fa, _, rfl, f2.g_c, Nat.zero_le _, fun c3 nc3 => ?_⟩
      have s3 : Same H2 (upd H2 c3 (.lst [])) := same_upd nc3
      have f3 := f2.same s3
      have b3 : But fa H2 (upd H2 c3 (.lst [])) := s3.but
      have e3 : (upd H2 c3 (.lst [])) c3 = some (.lst []) := upd_same
      generalize upd H2 c3 (.lst []) = H3 at s3 f3 b3 e3
      have b13 : But fa H H3 := b1.trans (b2.trans b3)
      have hints : ∀ zs : List Int, TpAll K H3 (zs.map V.int) (zs.map PyData.int) := fun zs => by
        induction zs with
        | nil => exact .nil
        | cons z r ih => exact .cons (.int _) ih
      have hsh : SeqAt.shaped (.list (ms.map PyData.int)) = true := shapedL fun d hd => by
        obtain ⟨z, _, rfl⟩ := List.mem_map.mp hd
        exact ⟨by simp only [PyData.canLay0], by simp only [PyData.depth]; omega⟩
      refine ⟨.list (ms.map .int), .list [], .lst (.of f3.2.1) (hints ms).dp, .lst (.of e3) .nil, hsh, shaped_nilL, _, rfl, ite2 (fun hc => ?_) (fun hc => ?_)⟩
      · have hne : ms ≠ [] := fun z => by
          subst z
          exact absurd hc (by rw [eqvL_nil]; decide)
        have hpos : (0 : Int) < ((ms.map V.int).length : Nat) := by
          have := List.length_pos_iff.mpr hne
          rw [List.length_map]
          omega
        obtain ⟨k, ek, hk⟩ := emod_nat (x := a) hpos
        have hk' : k < ms.length := by rw [List.length_map] at hk; omega
        have hat : atI (ms.map V.int) (a % ((ms.map V.int).length : Nat)) = some (.int ms[k]) := by
          rw [ek]
          refine atI_nat ?_
          rw [List.getElem?_map, List.getElem?_eq_getElem hk']
          rfl
        refine ⟨_, rfl, fa, _, rfl, f3.g_c, _, rfl, .inl ⟨_, rfl, _, rfl, fa, _, rfl, f3.g_c, _, _, rfl, .inl ⟨_, .of f3.2.1, rfl⟩, _, _, rfl, rfl, hpos, la, _, _, _, rfl, rfl, SqL.of f3.2.1, hat, ?_⟩⟩
        refine ⟨_, rfl, _, _, rfl, rfl, ⟨by decide, by decide, by decide⟩, _, _, rfl, rfl, _, rfl, ?_⟩
        refine (fun tail => ite2 (fun _ => ?_) (fun _ => iteF tail)) ?_
        · refine ⟨_, rfl, _, rfl, fa, _, rfl, f3.g_c, _, _, rfl, .inl ⟨_, .of f3.2.1, rfl⟩, _, _, rfl, rfl, _, rfl, ite2 (fun _ => ?_) (fun _ => tail)⟩
          obtain ⟨H4, p4, f4, b4⟩ := f3.put_l (ms[k] / m)
          exact ⟨_, rfl, _, rfl, _, _, rfl, rfl, ⟨h0, h30⟩, _, rfl, fa, H4, rfl, p4, _, rfl, .inl ⟨_, rfl, _, rfl, _, _, rfl, rfl, h0, q' _ H4 ⟨b13.trans b4, _, _, _, _, f4⟩⟩⟩
        · refine ⟨_, rfl, .inl ⟨_, rfl, _, _, rfl, rfl, (by decide : (0 : Int) < 1000000579), _, rfl, fa, _, rfl, f3.g_n, _, _, rfl, rfl, .inl ⟨by decide, by decide⟩, _, _, rfl, rfl, _, _, rfl, rfl, .inl ⟨_, rfl, _, _, rfl, rfl, (by decide : (0 : Int) < 2147483323), ?_⟩⟩⟩
          refine ⟨_, rfl, _, rfl, _, _, rfl, rfl, .inl (by constructor <;> omega), _, rfl, fa, _, rfl, f3.g_n, _, _, rfl, rfl, .inl ⟨by decide, by decide⟩, _, _, rfl, rfl, _, _, rfl, rfl, .inl ⟨_, rfl, _, _, rfl, rfl, (by decide : (0 : Int) < 2147483269), ?_⟩⟩
          exact ⟨_, rfl, _, rfl, _, _, rfl, rfl, .inl (by constructor <;> omega), _, rfl, _, _, rfl, rfl, .inl ⟨by decide, by decide⟩, _, _, rfl, rfl, .inl ⟨_, rfl, _, _, rfl, rfl, (by decide : (0 : Int) < 2147483249), _, _, rfl, rfl, ⟨by decide, by decide⟩, .inl ⟨_, rfl, _, rfl, _, _, rfl, rfl, h0, q' _ _ ⟨b13, _, _, _, _, f3⟩⟩⟩⟩
      · refine ⟨_, rfl, _, _, rfl, rfl, ⟨by decide, by decide, by decide⟩, _, _, rfl, rfl, _, rfl, ?_⟩
        refine (fun tail => ite2 (fun _ => ?_) (fun _ => iteF tail)) ?_
        · refine ⟨_, rfl, _, rfl, fa, _, rfl, f3.g_c, _, _, rfl, .inl ⟨_, .of f3.2.1, rfl⟩, _, _, rfl, rfl, _, rfl, ite2 (fun _ => ?_) (fun _ => tail)⟩
          obtain ⟨H4, p4, f4, b4⟩ := f3.put_l (71 / m)
          exact ⟨_, rfl, _, rfl, _, _, rfl, rfl, ⟨h0, h30⟩, _, rfl, fa, H4, rfl, p4, _, rfl, .inl ⟨_, rfl, _, rfl, _, _, rfl, rfl, h0, q' _ H4 ⟨b13.trans b4, _, _, _, _, f4⟩⟩⟩
        · refine ⟨_, rfl, .inl ⟨_, rfl, _, _, rfl, rfl, (by decide : (0 : Int) < 1000000579), _, rfl, fa, _, rfl, f3.g_n, _, _, rfl, rfl, .inl ⟨by decide, by decide⟩, _, _, rfl, rfl, _, _, rfl, rfl, .inl ⟨_, rfl, _, _, rfl, rfl, (by decide : (0 : Int) < 2147483323), ?_⟩⟩⟩
          refine ⟨_, rfl, _, rfl, _, _, rfl, rfl, .inl (by constructor <;> omega), _, rfl, fa, _, rfl, f3.g_n, _, _, rfl, rfl, .inl ⟨by decide, by decide⟩, _, _, rfl, rfl, _, _, rfl, rfl, .inl ⟨_, rfl, _, _, rfl, rfl, (by decide : (0 : Int) < 2147483269), ?_⟩⟩
          exact ⟨_, rfl, _, rfl, _, _, rfl, rfl, .inl (by constructor <;> omega), _, rfl, _, _, rfl, rfl, .inl ⟨by decide, by decide⟩, _, _, rfl, rfl, .inl ⟨_, rfl, _, _, rfl, rfl, (by decide : (0 : Int) < 2147483249), _, _, rfl, rfl, ⟨by decide, by decide⟩, .inl ⟨_, rfl, _, rfl, _, _, rfl, rfl, h0, q' _ _ ⟨b13, _, _, _, _, f3⟩⟩⟩⟩
end
end B9

/-! Sizes, parts, leaves, formulas. -/
namespace B9
open PySem PySem.Spec PyProof.Rows L2

theorem biW_ne : ∀ x ∈ biW, x ∉ unW ∧ x ≠ ("if" : Str) := by decide +kernel
theorem biW_nd : biW.Nodup := by decide +kernel
theorem unW_ne : ∀ x ∈ unW, x ≠ ("if" : Str) := by decide +kernel
def sizes0 : List (Key × V) := [(.inr "not", .int 1), (.inr "neg", .int 1), (.inr "if", .int 3)]
theorem sizes0_nd : (sizes0.map (·.1)).Nodup := (by decide +kernel : [(.inr "not" : Key), .inr "neg", .inr "if"].Nodup)
/-- the sizes once i of the words with two parts stand -/
def SzAt (kvs : List (Key × V)) (i : Nat) : Prop := kvs.length ≤ 3 + i ∧ (∀ x ∈ unW, valV kvs (.inr x) = some (.int 1)) ∧ valV kvs (.inr "if") = some (.int 3) ∧ ∀ x ∈ biW.take i, valV kvs (.inr x) = some (.int 2)
theorem sz0 : SzAt sizes0 0 := by
  refine ⟨by show 3 ≤ 3; decide, fun x hx => ?_, valV_at (i := 2) sizes0_nd rfl, fun x hx => by cases hx⟩
  have : x = "not" ∨ x = "neg" := by simpa [unW] using hx
  rcases this with rfl | rfl
  · exact valV_at (i := 0) sizes0_nd rfl
  · exact valV_at (i := 1) sizes0_nd rfl
theorem SzAt.step {kvs : List (Key × V)} {i : Nat} {x : Str} (h : SzAt kvs i) (e : biW[i]? = some x) : SzAt (putK kvs (.inr x) (.int 2)) (i + 1) := by
  obtain ⟨h1, h2, h3, h4⟩ := h
  have hx : x ∈ biW := List.mem_of_getElem? e
  obtain ⟨n1, n2⟩ := biW_ne x hx
  refine ⟨?_, fun y hy => ?_, ?_, fun y hy => ?_⟩
  · have := length_putK kvs (.inr x : Key) (.int 2)
    omega
  · rw [valV_put, if_neg (fun z => n1 (by rw [← Sum.inr.inj z]; exact hy))]
    exact h2 y hy
  · rw [valV_put, if_neg (fun z => n2 (Sum.inr.inj z).symm)]
    exact h3
  · rw [valV_put]
    by_cases z : y = x
    · rw [if_pos (by rw [z])]
    · rw [if_neg (fun w => z (Sum.inr.inj w))]
      rw [List.take_add_one, e] at hy
      rcases List.mem_append.mp hy with hy | hy
      · exact h4 y hy
      · exact absurd (by simpa using hy) z
theorem SzAt.word {kvs : List (Key × V)} {w : Str} {n : Nat} (h : SzAt kvs biW.length) (hw : wordOk w n) : valV kvs (.inr w) = some (.int n) := by
  obtain ⟨h1, h2, h3, h4⟩ := h
  rw [List.take_length] at h4
  rcases hw with ⟨h, rfl⟩ | ⟨h, rfl⟩ | ⟨rfl, rfl⟩
  · exact h2 w h
  · exact h4 w h
  · exact h3

section
variable {P : Program} {w : World} {K : PySem.W.Frag} {mg : Str → Option Value} {base : Heap}
def spSz : Sp := fun vs H Q _ => vs = [] ∧ ∀ p kvs H', Same H H' → H' p = some (.dK kvs) → (∀ x n, wordOk x n → valV kvs (.inr x) = some (.int (n : Nat))) → Q (.ref p) H'
theorem h__law_sizes (D : Dfs w K mg) : Has P w K mg base 1 "_law_sizes" spSz := by
  refine D.f__law_sizes.has sc__law_sizes (fun vs H Q E h => ?_) (fun f cdv A outer s H vs Q E hr h => ?_)
  · obtain ⟨rfl, _⟩ := h
    rfl
  · obtain ⟨rfl, q⟩ := h
    have hu := hu_of hr
    refine ⟨_, (pss_cons (ps_set (i := 0) sc__law_sizes.nd rfl (.inl rfl) (pe_disp (pps_cons pe_str pe_int (pps_cons pe_str pe_int (pps_cons pe_str pe_int pps_nil))) (by rfl) (by rfl) (fun z => by cases z) (by decide)))
      (pss_cons (ps_for PassesOwn.never rfl (pi_tup (pe_tup (pa_cons pe_str (pa_cons pe_str (pa_cons pe_str (pa_cons pe_str (pa_cons pe_str (pa_cons pe_str (pa_cons pe_str (pa_cons pe_str (pa_cons pe_str (pa_cons pe_str (pa_cons pe_str (pa_cons pe_str pa_nil)))))))))))))) (pg_name (i := 1) sc__law_sizes.nd rfl (.inl rfl)) (pss_one (ps_dput hu (pv 0) (pv 1) pe_int (by rfl))))
      (pss_one (ps_ret (pv 0))))), ?_⟩
    refine fun p np => ⟨upd_same, sizes0, rfl, (by show 3 ≤ 15; decide), ?_⟩
    rw [show mergeK [] sizes0 = sizes0 from mergeK_app (kvs := []) sizes0_nd]
    have s1 : Same H (upd (upd H p (.dK [])) p (.dK sizes0)) := fun b o e => by
      have n := ne_of_none e np
      rw [upd_ne n, upd_ne n]
      exact e
    have ep : (upd (upd H p (.dK [])) p (.dK sizes0)) p = some (.dK sizes0) := upd_same
    generalize upd (upd H p (.dK [])) p (.dK sizes0) = H1 at s1 ep
    refine ⟨(by show 12 ≤ sizeLine; exact small3 (by decide)), fun c nc => ?_⟩
    have s2 : Same H1 (upd H1 c (.tup (biW.map V.str))) := same_upd nc
    have ec : (upd H1 c (.tup (biW.map V.str))) c = some (.tup (biW.map V.str)) := upd_same
    have ncp : c ≠ p := fun z => by rw [z, ep] at nc; cases nc
    refine ⟨c, rfl, ⟨_, .of ec⟩, ?_⟩
    refine for_tup (K := K) (a := c) (xs := biW.map V.str) (fun i σ H' => Same H H' ∧ H' c = some (.tup (biW.map V.str)) ∧ (∃ kvs, H' p = some (.dK kvs) ∧ SzAt kvs i) ∧ ∃ y, σ = [some (.ref p), y]) ⟨s1.trans s2, ec, ⟨_, s2 _ _ ep, sz0⟩, none, rfl⟩ (fun i σ H' _ pp => .of pp.2.1) (fun i x σ H' hx pp => ?_) (fun σ H' pp => ?_)
    · obtain ⟨sm, ec', ⟨kvs, ek, hz⟩, y, rfl⟩ := pp
      rw [List.getElem?_map] at hx
      cases hb : biW[i]? with
      | none => rw [hb] at hx; cases hx
      | some z =>
        rw [hb] at hx
        cases hx
        have hi : i < 12 := (List.getElem?_eq_some_iff.mp hb).1
        refine ⟨_, rfl, _, rfl, p, _, rfl, DPut.k (k := .inr z) ek (small1000 (by have := hz.1; omega)), same_at np sm, ?_, ⟨_, upd_same, hz.step hb⟩, _, rfl⟩
        rw [upd_ne ncp]
        exact ec'
    · obtain ⟨sm, ec', ⟨kvs, ek, hz⟩, y, rfl⟩ := pp
      exact ⟨_, rfl, q p kvs H' sm ek fun x n hw => hz.word hw⟩
/-! ### _law_parts -/
def spParts (K : PySem.W.Frag) : Sp := fun vs H Q _ => ∃ (v : V) (row : Rw), vs = [v] ∧ Tp K H v row.d ∧ row.jmp = false ∧ ∀ p xs H', Same H H' → SqT K H' p xs → xs.length = row.parts.length → Q (.ref p) H'
theorem sIx_neg1 (n d : Nat) : HT.sIx n d (some (-1)) = n - 1 := by
  show (if (-1 : Int) < 0 then ((-1 : Int) + (n : Int)).toNat else min (-1 : Int).toNat n) = n - 1
  rw [if_pos (by decide)]
  omega
theorem cutV_last {x y : V} {xs : List V} : (cutV (x :: (xs ++ [y])) (some (-1)) none).length = 1 := by
  unfold cutV
  have h1 : HT.sIx (x :: (xs ++ [y])).length 0 (some (-1)) = xs.length + 1 := by
    rw [sIx_neg1]
    simp
  rw [h1, HT.sIx_none, List.length_take, List.length_drop]
  simp only [List.length_cons, List.length_append, List.length_nil]
  omega
theorem not_wholeL {n : Nat} {P : Prop} : ¬ (HT.sIx (n + 2) 0 (some (-1)) = 0 ∧ P) := fun ⟨h, _⟩ => by
  rw [sIx_neg1] at h
  omega
theorem h__law_parts (D : Dfs w K mg) : Has P w K mg base 1 "_law_parts" (spParts K) := by
  refine D.f__law_parts.has sc__law_parts (fun vs H Q E h => ?_) (fun f cdv A outer s H vs Q E hr h => ?_)
  · obtain ⟨v, row, rfl, _⟩ := h
    rfl
  · obtain ⟨v, row, rfl, hd, hj, q⟩ := h
    refine ⟨_, (pss_cons (ps_if (pt_cmpR op_in_seq (pe_ix ix_tup (pv 0) pe_int (fun _ _ => rfl)) (pe_tup (pa_cons pe_str (pa_cons pe_str pa_nil))) (by rfl)) (pss_one (ps_ret (pe_tup pa_nil))) pss_nil)
      (pss_one (ps_ret (pe_ifExp (pt_cmpR op_eq (pe_ix ix_tup (pv 0) pe_int (fun _ _ => rfl)) pe_str (nomark _)) (pe_ix ix_tup (pv 0) pe_int (fun _ _ => rfl)) (pe_slice sl_tupA (pv 0) (po_some (pe_un un_neg pe_int)) po_none))))), ?_⟩
    obtain ⟨a, xs, rfl, hS, hA⟩ := Rw.inv hd
    refine ⟨_, rfl, a, _, 0, _, rfl, rfl, hS, at0, len2_line, fun c nc => ?_⟩
    have s1 : Same H (upd H c (.tup [.str "else", .str "end"])) := same_upd nc
    have hS1 := s1.tsm _ _ hS
    have hb : row.bare = false := by cases row <;> first | rfl | (cases hj; done)
    refine ⟨c, _, rfl, .inr (.of upd_same), rfl, flat_bare, _, rfl, iteF1 (by rw [word_bare]; exact hb) ?_⟩
    refine ⟨_, rfl, a, _, 0, _, rfl, rfl, hS1, at0, rfl, _, rfl, ?_⟩
    by_cases hcall : ∃ z g as, row = .call z g as
    · obtain ⟨z, g, as, rfl⟩ := hcall
      refine iteT1 (decide_eq_true rfl) ?_
      obtain ⟨b, ys, rfl, hb, hB⟩ := call_inv hA
      exact ⟨_, rfl, a, _, 3, _, rfl, rfl, hS1, at3, q b ys _ s1 (s1.tsm _ _ hb) hB.map_len⟩
    · have hnc : decide (V.str row.word = V.str "call") = false := by
        rw [word_call]
        cases row with
        | call z g as => exact absurd ⟨z, g, as, rfl⟩ hcall
        | _ => rfl
      refine iteF1 hnc ?_
      obtain ⟨e, he⟩ : ∃ e, row.parts = [e] := by
        cases row with
        | call z g as => exact absurd ⟨z, g, as, rfl⟩ hcall
        | set x e => exact ⟨e, rfl⟩
        | ret e => exact ⟨e, rfl⟩
        | _ => cases hj
      obtain ⟨ys, y, rfl, _⟩ := one_inv he (fun z g as h => hcall ⟨z, g, as, h⟩) hA
      have hn : ¬ (HT.sIx (V.str row.word :: (ys ++ [y])).length 0 (some (-1)) = 0 ∧ HT.sIx (V.str row.word :: (ys ++ [y])).length (V.str row.word :: (ys ++ [y])).length none = (V.str row.word :: (ys ++ [y])).length) := by
        have hle : (V.str row.word :: (ys ++ [y])).length = ys.length + 2 := by simp
        rw [hle]
        exact not_wholeL
      refine ⟨_, rfl, _, rfl, _, rfl, a, _, rfl, hS1, (fun z => absurd z hn), fun _ p np => ?_⟩
      exact q p _ _ (s1.trans (same_upd np)) (.of upd_same) (by rw [he]; exact cutV_last)
end
end B9

/-! Leaves and formulas. -/
namespace B9
open PySem PySem.Spec PyProof.Rows L2

/-- an expression over these names, at most so deep -/
def ExOk (ns : List Str) (n : Nat) (e : Ex) : Prop := e.ok = true ∧ e.depth ≤ n ∧ e.fits ns = true
structure NmOk (ns : List Str) : Prop where
  ok : ∀ n ∈ ns, okNm n = true
  len : ns.length ≤ 3
def nums8 : List Int := [0, 1, 2, -1, 3, -2, 7, 1]
theorem nums_map : nums8.map V.int = [.int 0, .int 1, .int 2, .int (-1), .int 3, .int (-2), .int 7, .int 1] := rfl
section
variable {P : Program} {w : World} {K : PySem.W.Frag} {mg : Str → Option Value} {base : Heap}
def spFm (K : PySem.W.Frag) (n : Nat) (vs : List V) (H : Hp) (Q : VK) (rest : List V) : Prop := ∃ (fa : Addr × Addr) (an : Addr) (ns : List Str), vs = .ref fa.1 :: .ref an :: rest ∧ FeedAt H fa ∧ SqT K H an (ns.map V.str) ∧ NmOk ns ∧
  ∀ e v H', Fr fa H H' → Tp K H' v (Ex.d e) → ExOk ns n e → Q v H'
def spLeaf (K : PySem.W.Frag) : Sp := fun vs H Q _ => spFm K 0 vs H Q []
theorem h__law_leaf (D : Dfs w K mg) : Has P w K mg base 2 "_law_leaf" (spLeaf K) := by
  refine D.f__law_leaf.has sc__law_leaf (fun vs H Q E h => ?_) (fun f cdv A outer s H vs Q E hr h => ?_)
  · obtain ⟨fa, an, ns, rfl, _⟩ := h
    rfl
  · obtain ⟨fa, an, ns, rfl, hf, hN, hns, q⟩ := h
    refine ⟨_, (pss_cons (ps_if (PW.pt (pw_or (pt_cmpR (op_eqD hr.units) (pv 1) (pe_tup pa_nil) (nomark _)) (pw_or1 (pt_cmpR op_eq (pc (h__law_draw D) hr (pa_cons (pv 0) (pa_cons pe_int pa_nil))) pe_int (nomark _))))) (pss_one (ps_ret (pe_ix ix_list (pe_lst (pa_cons pe_int (pa_cons pe_int (pa_cons pe_int (pa_cons (pe_un un_neg pe_int) (pa_cons pe_int (pa_cons (pe_un un_neg pe_int) (pa_cons pe_int (pa_cons pe_int pa_nil))))))))) (pc (h__law_draw D) hr (pa_cons (pv 0) (pa_cons pe_int pa_nil))) (fun _ _ => rfl)))) pss_nil)
      (pss_one (ps_ret (pe_ix ix_tup (pv 1) (pc (h__law_draw D) hr (pa_cons (pv 0) (pa_cons (pe_callB call_len (by rfl) D.b_len (by decide +kernel) (pa_cons (pv 1) pa_nil)) pa_nil))) (fun _ _ => rfl))))), ?_⟩
    have num : ∀ (G : Hp) (l : Addr) (n : Nat) (G' : Hp), Fr fa H G → G l = none → (n : Int) < 8 → Fr fa (upd G l (.lst (nums8.map V.int))) G' → ∃ v, SqL K G' l (nums8.map V.int) ∧ atI (nums8.map V.int) ((n : Nat) : Int) = some v ∧ Q v G' := fun G l n G' fr nl hn fr' => by
      have hn8 : n < nums8.length := by show n < 8; omega
      have s1 : Same G (upd G l (.lst (nums8.map V.int))) := same_upd nl
      have fr1 := fr.same s1
      have el := fr'.lst fr1.2 (upd_same (a := l) (o := .lst (nums8.map V.int)))
      refine ⟨.int nums8[n], .of el, atI_nat (by rw [List.getElem?_map, List.getElem?_eq_getElem hn8]; rfl), ?_⟩
      exact q (.int nums8[n]) _ G' (fr1.trans fr') (.int _) ⟨rfl, Nat.le_refl _, rfl⟩
    have h8 : 8 ≤ sizeLine := small3 (by decide)
    refine ⟨_, rfl, Nat.zero_le _, fun c nc => ?_⟩
    have s1 : Same H (upd H c (.tup [])) := same_upd nc
    have ec : (upd H c (.tup [])) c = some (.tup []) := upd_same
    generalize upd H c (.tup []) = H1 at s1 ec
    have fr1 := Fr.of_same hf s1
    refine ⟨.tuple (ns.map .str), .tuple [], .tup (s1.tsm _ _ hN) (tpAll_strs _).dp, .tup (.of ec) .nil, shaped_strs hns.ok, shaped_nil, _, rfl, ite2 (fun _ => ?_) (fun hc => ?_)⟩
    · refine ⟨_, rfl, _, rfl, h8, fun l nl => ⟨_, rfl, fa, 8, rfl, fr1.2.same (same_upd nl), by decide, by decide, fun n H' hn fr => ?_⟩⟩
      obtain ⟨v, h1, h2, h3⟩ := num H1 l n H' fr1 nl hn fr
      exact ⟨l, _, _, v, rfl, rfl, h1, h2, h3⟩
    · refine ⟨_, rfl, fa, 3, rfl, fr1.2, by decide, by decide, fun n H2 hn fr2 => ⟨rfl, _, rfl, ite2 (fun _ => ?_) (fun _ => ?_)⟩⟩
      · refine ⟨_, rfl, _, rfl, h8, fun l nl => ⟨_, rfl, fa, 8, rfl, fr2.2.same (same_upd nl), by decide, by decide, fun n H' hn fr => ?_⟩⟩
        obtain ⟨v, h1, h2, h3⟩ := num H2 l n H' (fr1.trans fr2) nl hn fr
        exact ⟨l, _, _, v, rfl, rfl, h1, h2, h3⟩
      · have hne : ns ≠ [] := fun z => by
          subst z
          exact hc rfl
        have hpos := List.length_pos_iff.mpr hne
        have hl3 := hns.len
        have t2 := fr2.tsm (K := K) fr1.2
        refine ⟨_, rfl, _, rfl, _, rfl, _, ns.length, rfl, .inr ⟨_, t2 _ _ (s1.tsm _ _ hN), by rw [List.length_map]⟩, fa, _, rfl, fr2.2, by omega, by omega, fun k H3 hk fr3 => ?_⟩
        have hk' : k < ns.length := by omega
        have t3 := fr3.tsm (K := K) fr2.2
        refine ⟨an, _, _, .str ns[k], rfl, rfl, t3 _ _ (t2 _ _ (s1.tsm _ _ hN)), atI_nat (by rw [List.getElem?_map, List.getElem?_eq_getElem hk']; rfl), ?_⟩
        refine q (.nm ns[k]) _ H3 (fr1.trans (fr2.trans fr3)) (.str _) ⟨hns.ok _ (List.getElem_mem hk'), Nat.le_refl _, ?_⟩
        unfold Ex.fits Ex.names
        simp
/-! ### _law_formula -/
def words16 : List Str := ["+", "-", "*", "div", "mod", "least", "most", "=", "<", "<=", "and", "or", "not", "neg", "if", "if"]
theorem words_ok : ∀ x ∈ words16, x ∈ unW ∨ x ∈ biW ∨ x = "if" := by decide +kernel
theorem words_n (x : Str) (h : x ∈ words16) : ∃ n, wordOk x n := by
  rcases words_ok x h with h | h | h
  · exact ⟨1, .inl ⟨h, rfl⟩⟩
  · exact ⟨2, .inr (.inl ⟨h, rfl⟩)⟩
  · exact ⟨3, .inr (.inr ⟨h, rfl⟩)⟩
theorem form_args {a b : Addr} {n : Nat} (h : 1 ≤ n) : [V.ref a, V.ref b, V.int ((n : Nat) - 1)] = V.ref a :: V.ref b :: [V.int ((n - 1 : Nat) : Int)] := by
  rw [show ((n : Nat) : Int) - 1 = ((n - 1 : Nat) : Int) by omega]
theorem wordOk.pos {w : Str} {n : Nat} (h : wordOk w n) : 1 ≤ n := by
  rcases h with ⟨_, rfl⟩ | ⟨_, rfl⟩ | ⟨_, rfl⟩ <;> decide
/-- an expression by word and parts -/
theorem Ex.make {ns : List Str} {n : Nat} {x : Str} {es : List Ex} (h : wordOk x es.length) (hes : ∀ e ∈ es, ExOk ns n e) : ∃ e : Ex, e.d = .tuple (.str x :: es.map Ex.d) ∧ ExOk ns (n + 1) e := by
  rcases h with ⟨h, hl⟩ | ⟨h, hl⟩ | ⟨rfl, hl⟩
  · match es, hl with
    | [a], _ =>
      obtain ⟨a1, a2, a3⟩ := hes a (by simp)
      refine ⟨.un x a, rfl, ?_, Nat.succ_le_succ a2, a3⟩
      simp only [Ex.ok, decide_eq_true h, a1, Bool.and_self]
  · match es, hl with
    | [a, b], _ =>
      obtain ⟨a1, a2, a3⟩ := hes a (by simp)
      obtain ⟨b1, b2, b3⟩ := hes b (by simp)
      refine ⟨.bi x a b, rfl, ?_, ?_, ?_⟩
      · simp only [Ex.ok, decide_eq_true h, a1, b1, Bool.and_self]
      · show max a.depth b.depth + 1 ≤ n + 1
        omega
      · unfold Ex.fits at *
        rw [Ex.names, List.all_append, a3, b3]
        rfl
  · match es, hl with
    | [a, b, c], _ =>
      obtain ⟨a1, a2, a3⟩ := hes a (by simp)
      obtain ⟨b1, b2, b3⟩ := hes b (by simp)
      obtain ⟨c1, c2, c3⟩ := hes c (by simp)
      refine ⟨.tri a b c, rfl, ?_, ?_, ?_⟩
      · simp only [Ex.ok, a1, b1, c1, Bool.and_self]
      · show max a.depth (max b.depth c.depth) + 1 ≤ n + 1
        omega
      · unfold Ex.fits at *
        rw [Ex.names, List.all_append, List.all_append, a3, b3, c3]
        rfl
def spForm (K : PySem.W.Frag) (n : Nat) : Sp := fun vs H Q _ => spFm K n vs H Q [.int n]
theorem spFm.mono {n m : Nat} {vs : List V} {H : Hp} {Q : VK} {r : List V} (h : spFm K n vs H Q r) (hm : m ≤ n) : spFm K m vs H Q r := by
  obtain ⟨fa, an, ns, e, f, hN, hns, q⟩ := h
  exact ⟨fa, an, ns, e, f, hN, hns, fun e v H' fr t ok => q e v H' fr t ⟨ok.1, Nat.le_trans ok.2.1 hm, ok.2.2⟩⟩
theorem h_form_step (D : Dfs w K mg) (n : Nat) (hn : n ≤ 60) (ih : ∀ m, m < n → Has P w K mg base (m + 3) "_law_formula" (spForm K m)) : Has P w K mg base (n + 2 + 1) "_law_formula" (spForm K n) := by
  refine D.f__law_formula.has sc__law_formula (fun vs H Q E h => ?_) (fun f cdv A outer s H vs Q E hr h => ?_)
  · obtain ⟨fa, an, ns, rfl, _⟩ := h
    rfl
  · obtain ⟨fa, an, ns, rfl, hf, hN, hns, q⟩ := h
    have hu := hu_of hr
    have ihn : Has P w K mg base (n + 2) "_law_formula" (fun vs H Q E => 1 ≤ n ∧ spForm K (n - 1) vs H Q E) := by
      by_cases h1 : 1 ≤ n
      · exact (ih (n - 1) (by omega)).imp (by omega) fun _ _ _ _ z => z.2
      · obtain ⟨f', fd', F, b, g⟩ := D.f__law_formula
        exact ⟨f', g, fd', _, ⟨fun vs H Q E z => absurd z.1 h1, fun _ _ _ _ _ _ _ _ _ _ _ _ _ z => absurd z.1 h1⟩, F.kp, b⟩
    refine ⟨_, (pss_cons (ps_if (PW.pt (pw_or (pt_cmpR op_lt (pv 2) pe_int (nomark _)) (pw_or1 (pt_cmpR op_eq (pc (h__law_draw D) hr (pa_cons (pv 0) (pa_cons pe_int pa_nil))) pe_int (nomark _))))) (pss_one (ps_ret (pc (h__law_leaf D) hr (pa_cons (pv 0) (pa_cons (pv 1) pa_nil))))) pss_nil)
      (pss_cons (ps_set (i := 3) sc__law_formula.nd rfl (.inl rfl) (pe_lst (pa_cons pe_str (pa_cons pe_str (pa_cons pe_str (pa_cons pe_str (pa_cons pe_str (pa_cons pe_str (pa_cons pe_str (pa_cons pe_str (pa_cons pe_str (pa_cons pe_str (pa_cons pe_str (pa_cons pe_str (pa_cons pe_str (pa_cons pe_str (pa_cons pe_str pa_nil)))))))))))))))))
      (pss_cons (ps_set (i := 4) sc__law_formula.nd rfl (.inl rfl) (pe_ix ix_list (pe_op op_cat (pv 3) (pe_lst (pa_cons pe_str pa_nil))) (pc (h__law_draw D) hr (pa_cons (pv 0) (pa_cons pe_int pa_nil))) (fun _ _ => rfl)))
      (pss_one (ps_ret (pe_op op_catA (pe_tup (pa_cons (pv 4) pa_nil)) (pe_callTy call_tuple_of (by rfl) D.b_tuple (by decide +kernel) (pa_cons (pe_lc (own := [("_law_k", 5)]) (by rfl) sc__law_formula.nd (pi_range1 (by rfl) D.b_range (pa_cons (pe_dget hu (pc0 (h__law_sizes D) hr) (pv 4) (fun _ _ => rfl)) pa_nil)) (blkOk_by (own := [("_law_k", 5)]) (N := N__law_formula) (sc := defScope s__law_formula) (by decide +kernel)) (fun _ _ _ _ _ => (pg_name (i := 5) sc__law_formula.nd rfl (Or.inl rfl))) (fun _ _ _ _ _ => pts_nil) (fun _ _ _ _ _ => (pc ihn hr (pa_cons (pv 0) (pa_cons (pv 1) (pa_cons (pe_op op_sub (pv 2) pe_int) pa_nil)))))) pa_nil)))))))), ?_⟩
    have leaf : ∀ (G : Hp), Fr fa H G → ∃ (fa' : Addr × Addr) (an' : Addr) (ns' : List Str), [V.ref fa.1, V.ref an] = [.ref fa'.1, .ref an'] ∧ FeedAt G fa' ∧ SqT K G an' (ns'.map V.str) ∧ NmOk ns' ∧ ∀ e v H', Fr fa' G H' → Tp K H' v (Ex.d e) → ExOk ns' 0 e → Q v H' := fun G fr =>
      ⟨fa, an, ns, rfl, fr.2, (fr.tsm hf) _ _ hN, hns, fun e v H' fr' t ok => q e v H' (fr.trans fr') t ⟨ok.1, Nat.le_trans ok.2.1 (Nat.zero_le _), ok.2.2⟩⟩
    refine ⟨_, rfl, _, _, rfl, rfl, _, rfl, ite2 (fun _ => ⟨_, rfl, _, rfl, leaf H (Fr.refl hf)⟩) (fun hc => ?_)⟩
    have h1n : 1 ≤ n := by
      rcases Nat.eq_zero_or_pos n with z | z
      · subst z
        exact absurd (decide_eq_true (by decide)) hc
      · exact z
    refine ⟨_, rfl, fa, 4, rfl, hf, by decide, by decide, fun d H1 hd fr1 => ⟨rfl, _, rfl, ite2 (fun _ => ⟨_, rfl, _, rfl, leaf H1 fr1⟩) (fun _ => ?_)⟩⟩
    -- words
    refine ⟨(by show 15 ≤ sizeLine; exact small3 (by decide)), fun l1 nl1 => ?_⟩
    have s2 : Same H1 (upd H1 l1 (.lst ((words16.take 15).map V.str))) := same_upd nl1
    have e2 : (upd H1 l1 (.lst ((words16.take 15).map V.str))) l1 = some (.lst ((words16.take 15).map V.str)) := upd_same
    refine ⟨_, rfl, len1_line, fun l2 nl2 => ?_⟩
    have s3 := same_upd (o := .lst [.str "if"]) nl2
    have e3 : (upd (upd H1 l1 (.lst ((words16.take 15).map V.str))) l2 (.lst [.str "if"])) l2 = some (.lst [.str "if"]) := upd_same
    have e23 := s3 _ _ e2
    refine ⟨l1, l2, _, _, rfl, rfl, e23, e3, (by show 15 + 1 ≤ sizeLine; exact small3 (by decide)), fun p np => ?_⟩
    have s4 := same_upd (o := .lst (words16.map V.str)) np
    have e4 : (upd (upd (upd H1 l1 (.lst ((words16.take 15).map V.str))) l2 (.lst [.str "if"])) p (.lst (words16.map V.str))) p = some (.lst (words16.map V.str)) := upd_same
    have fr4 := fr1.same (s2.trans (s3.trans s4))
    refine ⟨_, rfl, fa, 16, rfl, fr4.2, by decide, by decide, fun k H5 hk fr5 => ?_⟩
    have hk' : k < words16.length := by show k < 16; omega
    have e5 := fr5.lst fr4.2 e4
    refine ⟨p, words16.map V.str, _, .str words16[k], rfl, rfl, .of e5, atI_nat (by rw [List.getElem?_map, List.getElem?_eq_getElem hk']; rfl), ?_⟩
    have fr15 := fr4.trans fr5
    obtain ⟨sz, hsz⟩ := words_n words16[k] (List.getElem_mem hk')
    generalize words16[k] = x at hsz
    have hsz3 := hsz.le
    -- (word,) + tuple([..])
    refine ⟨_, rfl, len1_line, fun c nc => ?_⟩
    have s6 : Same H5 (upd H5 c (.tup [.str x])) := same_upd nc
    have e6 : (upd H5 c (.tup [.str x])) c = some (.tup [.str x]) := upd_same
    generalize upd H5 c (.tup [.str x]) = H6 at s6 e6
    refine ⟨rfl, fun ps kvs H7 s7 ep hz => ?_⟩
    have fr7 := fr15.same (s6.trans s7)
    have hD : DGet H7 ps (.str x) (some (.int sz)) := by
      rw [← hz x sz hsz]
      exact DGet.k (k := Sum.inr x) ep
    refine ⟨_, rfl, ps, _, rfl, hD, _, rfl, by omega, by omega, fun Dl nL => ?_⟩
    rw [Int.toNat_natCast]
    refine walkR (lo := 0) (n := sz) (PvN K fa H7 Dl Ex.d (ExOk ns (n - 1))) (PvN.zero fr7.2 nL) (fun j H8 hj p8 => ?_) (fun H8 p8 => ?_)
    · refine ⟨rfl, _, rfl, _, rfl, _, rfl, _, _, rfl, rfl, h1n, fa, an, ns, form_args h1n, p8.1.2, ?_, hns, fun e v H9 fr9 tv ok => PvN.step fr7.2 nL p8 (by omega) fr9 tv ok⟩
      exact ((fr7.trans p8.1).tsm hf) _ _ hN
    · obtain ⟨fr8, es, ys, hl, ey, hy, hg⟩ := p8
      refine ⟨Dl, ys, rfl, .inl ⟨.of ey, fun l nl => ?_⟩⟩
      have s9 : Same H8 (upd H8 l (.tup ys)) := same_upd nl
      have e9 : (upd H8 l (.tup ys)) l = some (.tup ys) := upd_same
      generalize upd H8 l (.tup ys) = H9 at s9 e9
      have hyl : ys.length = sz := by rw [hy.map_len, hl]
      have e69 : H9 c = some (.tup [.str x]) := s9 _ _ (fr8.keep fr7.2 (s7 _ _ e6) fun _ z => by cases z)
      refine ⟨c, l, _, _, rfl, rfl, .of e69, .of e9, by rw [hyl]; exact small3 (by show 1 + sz ≤ 100; omega), (fun z => by cases z), (fun _ z => ?_), fun _ _ pz npz => ?_⟩
      · rw [z] at hyl
        have := hsz.pos
        rw [← hyl] at this
        cases this
      · have s10 : Same H9 (upd H9 pz (.tup ([.str x] ++ ys))) := same_upd npz
        obtain ⟨e, ed, ok⟩ := Ex.make (ns := ns) (n := n - 1) (x := x) (es := es) (by rw [hl]; exact hsz) hg
        rw [Nat.sub_add_cancel h1n] at ok
        refine q e _ _ (fr7.trans (fr8.same (s9.trans s10))) ?_ ok
        rw [ed]
        exact .tup (.of upd_same) (.cons (.str _) (hy.mono (s9.trans s10).tsm))
theorem h__law_formula (D : Dfs w K mg) : ∀ n, n ≤ 60 → Has P w K mg base (n + 3) "_law_formula" (spForm K n) := by
  intro n
  induction n using Nat.strongRecOn with
  | ind n ih => exact fun hn => h_form_step D n hn fun m hm => ih m hm (by omega)
end
end B9

/-! Variables, heads. -/
namespace B9
open PySem PySem.Spec PyProof.Rows L2

def menus4 : List (List Str) := [["a", "b", "x"], ["end", "if", "set"], ["x", "least", "n"], ["test", "zzzzzzzz", "y"]]
theorem menus_ok : ∀ m ∈ menus4, m.length = 3 ∧ m.Nodup ∧ ∀ x ∈ m, okNm x = true := by decide +kernel
def hmenus : List (List Str) := [["f", "main"], ["call", "end", "g"], ["p", "q", "zz"], ["main", "x"]]
theorem hmenus_ok : ∀ m ∈ hmenus, 2 ≤ m.length ∧ m.length ≤ 3 ∧ (∀ x ∈ m, okNm x = true) ∧ m.Pairwise (fun a b => a.cps.toList < b.cps.toList) := by decide +kernel
structure VsOk (xs : List Vr) : Prop where
  pos : 1 ≤ xs.length
  len : xs.length ≤ 3
  nd : (xs.map (·.x)).Nodup
  ok : ∀ v ∈ xs, okNm v.x = true ∧ v.lo ≤ v.hi
theorem vr_tp {K : PySem.W.Frag} {H : Hp} {c : Addr} {v : Vr} (h : SqT K H c [.str v.x, .int v.lo, .int v.hi]) : Tp K H (.ref c) v.d := .tup h (.cons (.str _) (.cons (.int _) (.cons (.int _) .nil)))
/-- t[lo:hi]: some tuple of these -/
def rSlB (K : PySem.W.Frag) : V → Option Int → Option Int → Hp → VK → Prop := fun x lo hi H Q => ∃ a xs, x = .ref a ∧ SqT K H a xs ∧ ∀ p H', Same H H' → SqT K H' p (cutV xs lo hi) → Q (.ref p) H'
theorem cutV_whole {xs : List V} {lo hi : Option Int} (h : HT.sIx xs.length 0 lo = 0 ∧ HT.sIx xs.length xs.length hi = xs.length) : cutV xs lo hi = xs := by
  unfold cutV
  rw [h.1, h.2, List.drop_zero, Nat.sub_zero, List.take_length]
theorem sl_tupB {X : Cx} : SlR X (rSlB X.K) := by
  intro pins s σ H x v vl vu lo hi sl Q I rx hs pl pu q
  obtain ⟨a, xs, ex, hS, q⟩ := q
  exact sl_tupA pins s σ H x v vl vu lo hi sl Q I rx hs pl pu ⟨a, xs, ex, hS, fun hw => q a H (Same.refl _) (by rw [cutV_whole hw]; exact hS), fun _ p np => q p _ (same_upd np) (.of upd_same)⟩
theorem cutV_from {xs : List V} {r : Nat} (h : r ≤ xs.length) : cutV xs (some (r : Int)) none = xs.drop r := by
  unfold cutV
  rw [HT.sIx_none, HT.sIx_nat, Nat.min_eq_left h, List.take_of_length_le]
  rw [List.length_drop]
  omega
section
variable {P : Program} {w : World} {K : PySem.W.Frag} {mg : Str → Option Value} {base : Heap}
def spVars (K : PySem.W.Frag) : Sp := fun vs H Q _ => ∃ (fa : Addr × Addr), vs = [.ref fa.1] ∧ FeedAt H fa ∧ ∀ (xs : List Vr) v H', Fr fa H H' → Tp K H' v (.tuple (xs.map Vr.d)) → VsOk xs → Q v H'
theorem h__law_variables (D : Dfs w K mg) : Has P w K mg base 2 "_law_variables" (spVars K) := by
  refine D.f__law_variables.has sc__law_variables (fun vs H Q E h => ?_) (fun f cdv A outer s H vs Q E hr h => ?_)
  · obtain ⟨fa, rfl, _⟩ := h
    rfl
  · obtain ⟨fa, rfl, hf, q⟩ := h
    refine ⟨_, (pss_cons (ps_set (i := 1) sc__law_variables.nd rfl (.inl rfl) (pe_lst (pa_cons (pe_tup (pa_cons pe_str (pa_cons pe_str (pa_cons pe_str pa_nil)))) (pa_cons (pe_tup (pa_cons pe_str (pa_cons pe_str (pa_cons pe_str pa_nil)))) (pa_cons (pe_tup (pa_cons pe_str (pa_cons pe_str (pa_cons pe_str pa_nil)))) (pa_cons (pe_tup (pa_cons pe_str (pa_cons pe_str (pa_cons pe_str pa_nil)))) pa_nil))))))
      (pss_cons (ps_par (i := 2) (j := 3) (by rfl) sc__law_variables.nd rfl rfl (by decide) rfl rfl (pa_cons (pe_lst pa_nil) (pa_cons (pe_ix ix_list (pv 1) (pc (h__law_draw D) hr (pa_cons (pv 0) (pa_cons pe_int pa_nil))) (fun _ _ => rfl)) pa_nil)) (by rfl))
      (pss_cons (ps_for PassesOwn.never rfl (pi_tup (pe_slice sl_tupB (pv 3) (po_some (pc (h__law_draw D) hr (pa_cons (pv 0) (pa_cons pe_int pa_nil)))) po_none)) (pg_name (i := 4) sc__law_variables.nd rfl (.inl rfl)) (pss_cons (ps_set (i := 5) sc__law_variables.nd rfl (.inl rfl) (pe_op op_sub (pc (h__law_draw D) hr (pa_cons (pv 0) (pa_cons pe_int pa_nil))) pe_int))
      (pss_one (ps_expr (pe_bm PySem.F.plainAttrs_list PySem.F.slot_list_append PySem.F.type_list_append mt_append (pv 2) (pa_cons (pe_tup (pa_cons (pv 4) (pa_cons (pv 5) (pa_cons (pe_op op_add (pv 5) (pc (h__law_draw D) hr (pa_cons (pv 0) (pa_cons pe_int pa_nil)))) pa_nil)))) pa_nil))))))
      (pss_one (ps_ret (pe_callTy call_tuple_of (by rfl) D.b_tuple (by decide +kernel) (pa_cons (pv 2) pa_nil))))))), ?_⟩
    -- the menus
    refine ⟨len3_line, fun c1 n1 => ⟨len3_line, fun c2 n2 => ⟨len3_line, fun c3 n3 => ⟨len3_line, fun c4 n4 => ⟨len4_line, fun l1 nl1 => ?_⟩⟩⟩⟩⟩
    have s1 : Same H (upd H c1 (.tup [.str "a", .str "b", .str "x"])) := same_upd n1
    have e1 : (upd H c1 (.tup [.str "a", .str "b", .str "x"])) c1 = some (.tup [.str "a", .str "b", .str "x"]) := upd_same
    generalize upd H c1 (.tup [.str "a", .str "b", .str "x"]) = H1 at s1 e1 n2 n3 n4 nl1
    have s2 : Same H1 (upd H1 c2 (.tup [.str "end", .str "if", .str "set"])) := same_upd n2
    have e2 : (upd H1 c2 (.tup [.str "end", .str "if", .str "set"])) c2 = some (.tup [.str "end", .str "if", .str "set"]) := upd_same
    generalize upd H1 c2 (.tup [.str "end", .str "if", .str "set"]) = H2 at s2 e2 n3 n4 nl1
    have s3 : Same H2 (upd H2 c3 (.tup [.str "x", .str "least", .str "n"])) := same_upd n3
    have e3 : (upd H2 c3 (.tup [.str "x", .str "least", .str "n"])) c3 = some (.tup [.str "x", .str "least", .str "n"]) := upd_same
    generalize upd H2 c3 (.tup [.str "x", .str "least", .str "n"]) = H3 at s3 e3 n4 nl1
    have s4 : Same H3 (upd H3 c4 (.tup [.str "test", .str "zzzzzzzz", .str "y"])) := same_upd n4
    have e4 : (upd H3 c4 (.tup [.str "test", .str "zzzzzzzz", .str "y"])) c4 = some (.tup [.str "test", .str "zzzzzzzz", .str "y"]) := upd_same
    generalize upd H3 c4 (.tup [.str "test", .str "zzzzzzzz", .str "y"]) = H4 at s4 e4 nl1
    have s5 : Same H4 (upd H4 l1 (.lst [.ref c1, .ref c2, .ref c3, .ref c4])) := same_upd nl1
    have e5 : (upd H4 l1 (.lst [.ref c1, .ref c2, .ref c3, .ref c4])) l1 = some (.lst [.ref c1, .ref c2, .ref c3, .ref c4]) := upd_same
    generalize upd H4 l1 (.lst [.ref c1, .ref c2, .ref c3, .ref c4]) = H5 at s5 e5
    have sH5 : Same H H5 := s1.trans (s2.trans (s3.trans (s4.trans s5)))
    have hmen : ∀ k, k < 4 → ∃ c m, [V.ref c1, V.ref c2, V.ref c3, V.ref c4][k]? = some (.ref c) ∧ m ∈ menus4 ∧ H5 c = some (.tup (m.map V.str)) := fun k hk => by
      match k, hk with
      | 0, _ => exact ⟨c1, ["a", "b", "x"], rfl, .head _, s5 _ _ (s4 _ _ (s3 _ _ (s2 _ _ e1)))⟩
      | 1, _ => exact ⟨c2, ["end", "if", "set"], rfl, .tail _ (.head _), s5 _ _ (s4 _ _ (s3 _ _ e2))⟩
      | 2, _ => exact ⟨c3, ["x", "least", "n"], rfl, .tail _ (.tail _ (.head _)), s5 _ _ (s4 _ _ e3)⟩
      | 3, _ => exact ⟨c4, ["test", "zzzzzzzz", "y"], rfl, .tail _ (.tail _ (.tail _ (.head _))), s5 _ _ e4⟩
    -- found, menu
    refine ⟨Nat.zero_le _, fun o no => ?_⟩
    have s6 : Same H5 (upd H5 o (.lst [])) := same_upd no
    have e6 : (upd H5 o (.lst [])) o = some (.lst []) := upd_same
    generalize upd H5 o (.lst []) = H6 at s6 e6
    have hoH : H o = none := by
      cases e : H o with
      | none => rfl
      | some ob => rw [sH5 _ _ e] at no; cases no
    have fr6 : Fr fa H H6 := Fr.of_same hf (sH5.trans s6)
    refine ⟨_, rfl, _, rfl, fa, 4, rfl, fr6.2, by decide, by decide, fun k H7 hk fr7 => ?_⟩
    obtain ⟨ct, m, hat, hm, hct⟩ := hmen k (by omega)
    obtain ⟨m3, mnd, mok⟩ := menus_ok m hm
    have ct7 := fr7.keep fr6.2 (s6 _ _ hct) fun _ z => by cases z
    have e57 := fr7.lst fr6.2 (s6 _ _ e5)
    have eo7 := fr7.lst fr6.2 e6
    refine ⟨l1, _, _, _, rfl, rfl, .of e57, atI_nat hat, _, _, rfl, ?_⟩
    -- the walk
    refine ⟨_, rfl, _, rfl, fa, 3, rfl, fr7.2, by decide, by decide, fun d H8 hd fr8 => ⟨_, rfl, ct, _, rfl, .of (fr8.keep fr7.2 ct7 fun _ z => by cases z), ?_⟩⟩
    have fr68 := fr6.trans (fr7.trans fr8)
    have eo8 := fr8.lst fr7.2 eo7
    have ct8 := fr8.keep fr7.2 ct7 fun _ z => by cases z
    have hd3 : d < 3 := by omega
    have hcut : cutV (m.map V.str) (some (d : Int)) none = (m.drop d).map V.str := by rw [cutV_from (by rw [List.length_map]; omega), List.map_drop]
    rw [hcut]
    intro t G s9 etG
    have frG := fr68.same s9
    have eoG := s9 _ _ eo8
    generalize hws : m.drop d = ws at etG
    have wl : ws.length = 3 - d := by rw [← hws, List.length_drop, m3]
    have wok : ∀ x ∈ ws, okNm x = true := fun x hx => mok x (by rw [← hws] at hx; exact List.mem_of_mem_drop hx)
    have wnd : ws.Nodup := by
      rw [← hws]
      exact (List.drop_sublist d m).nodup mnd
    refine ⟨t, rfl, ⟨_, etG⟩, ?_⟩
    refine for_tup (K := K) (a := t) (xs := ws.map V.str) (fun i σ H' => Fr fa H H' ∧ SqT K H' t (ws.map V.str) ∧ (∃ (vrs : List Vr) (ys : List V), H' o = some (.lst ys) ∧ TpAll K H' ys (vrs.map Vr.d) ∧ vrs.map (·.x) = ws.take i ∧ ∀ v ∈ vrs, v.lo ≤ v.hi) ∧ ∃ y4 y5, σ = [some (.ref fa.1), some (.ref l1), some (.ref o), some (.ref ct), y4, y5])
      ⟨frG, etG, ⟨[], [], eoG, .nil, rfl, fun v hv => by cases hv⟩, none, none, rfl⟩ (fun i σ H' _ pp => pp.2.1) (fun i x σ G1 hx pp => ?_) (fun σ G1 pp => ?_)
    · obtain ⟨fr1, et1, ⟨vrs, ys, eo1, hy, hnm, hle⟩, y4, y5, rfl⟩ := pp
      rw [List.getElem?_map] at hx
      cases hwi : ws[i]? with
      | none => rw [hwi] at hx; cases hx
      | some z =>
        rw [hwi] at hx
        cases hx
        refine ⟨_, rfl, fa, 4, rfl, fr1.2, by decide, by decide, fun a G2 ha fr2 => ⟨_, _, rfl, rfl, ?_⟩⟩
        have eo2 := fr2.lst fr1.2 eo1
        refine ⟨_, rfl, .inl ⟨rfl, _, .of eo2⟩, _, rfl, _, rfl, _, rfl, _, rfl, fa, 4, rfl, fr2.2, by decide, by decide, fun b G3 hb fr3 => ⟨_, _, rfl, rfl, len3_line, fun c nc => ?_⟩⟩
        have s4 : Same G3 (upd G3 c (.tup [.str z, .int ((a : Nat) - 2), .int ((a : Nat) - 2 + (b : Nat))])) := same_upd nc
        have e4 : (upd G3 c (.tup [.str z, .int ((a : Nat) - 2), .int ((a : Nat) - 2 + (b : Nat))])) c = some (.tup [.str z, .int ((a : Nat) - 2), .int ((a : Nat) - 2 + (b : Nat))]) := upd_same
        have eo4 := s4 _ _ (fr3.lst fr2.2 eo2)
        have et4 := s4.tsm _ _ (fr3.tsm (K := K) fr2.2 _ _ (fr2.tsm (K := K) fr1.2 _ _ et1))
        have fr14 : Fr fa G1 (upd G3 c (.tup [.str z, .int ((a : Nat) - 2), .int ((a : Nat) - 2 + (b : Nat))])) := fr2.trans (fr3.same s4)
        have hyl : ys.length ≤ 3 := by
          have h1 := congrArg List.length hnm
          rw [List.length_map, List.length_take] at h1
          rw [hy.map_len]
          omega
        refine ⟨o, _, _, rfl, rfl, eo4, small1000 (by omega), ?_⟩
        have t5 := tsm_upd (K := K) (o' := .lst (ys ++ [V.ref c])) eo4 rfl
        refine ⟨(fr1.trans fr14).put hf hoH, ?_, ⟨vrs ++ [⟨z, (a : Nat) - 2, (a : Nat) - 2 + (b : Nat)⟩], ys ++ [.ref c], upd_same, ?_, ?_, fun v hv => ?_⟩, _, _, rfl⟩
        · exact t5 _ _ et4
        · rw [List.map_append]
          exact (hy.mono ((fr14.tsm fr1.2).trans t5)).append (.cons (vr_tp (t5 _ _ (.of e4))) .nil)
        · rw [List.map_append, hnm, List.take_add_one, hwi]
          rfl
        · rcases List.mem_append.mp hv with hv | hv
          · exact hle v hv
          · rcases List.mem_singleton.mp hv with rfl
            show ((a : Nat) : Int) - 2 ≤ (a : Nat) - 2 + (b : Nat)
            omega
    · obtain ⟨fr1, et1, ⟨vrs, ys, eo1, hy, hnm, hle⟩, y4, y5, rfl⟩ := pp
      rw [List.length_map, List.take_length] at hnm
      refine ⟨_, rfl, o, _, rfl, .inl ⟨.of eo1, fun l nl => ?_⟩⟩
      have s2 : Same G1 (upd G1 l (.tup ys)) := same_upd nl
      have hvl : vrs.length = 3 - d := by
        have h1 := congrArg List.length hnm
        rw [List.length_map] at h1
        omega
      refine q vrs _ _ (fr1.same s2) (.tup (.of upd_same) (hy.mono s2.tsm)) ⟨by omega, by omega, by rw [hnm]; exact wnd, fun v hv => ⟨wok v.x ?_, hle v hv⟩⟩
      rw [← hnm]
      exact List.mem_map.mpr ⟨v, hv, rfl⟩
/-! ### _law_heads -/
structure Hd where
  nm : Str
  lo : Int
  hi : Int
  vars : List Vr
  many : Nat
def Hd.d (h : Hd) : PyData := .tuple [.str h.nm, .int h.lo, .int h.hi, .tuple (h.vars.map Vr.d), .int h.many]
structure HdOk (h : Hd) : Prop where
  nm : okNm h.nm = true
  rng : h.lo ≤ h.hi
  vars : VsOk h.vars
  many : h.many ≤ h.vars.length
structure HdsOk (hs : List Hd) : Prop where
  menu : hs.map (·.nm) ∈ hmenus
  ok : ∀ h ∈ hs, HdOk h
def spHeads (K : PySem.W.Frag) : Sp := fun vs H Q _ => ∃ (fa : Addr × Addr), vs = [.ref fa.1] ∧ FeedAt H fa ∧ ∀ (hs : List Hd) (p : Addr) (ys : List V) H', Fr fa H H' → H' p = some (.lst ys) → TpAll K H' ys (hs.map Hd.d) → HdsOk hs → Q (.ref p) H'
theorem len5_line : 5 ≤ sizeLine := by decide +kernel
theorem h__law_heads (D : Dfs w K mg) : Has P w K mg base 3 "_law_heads" (spHeads K) := by
  refine D.f__law_heads.has sc__law_heads (fun vs H Q E h => ?_) (fun f cdv A outer s H vs Q E hr h => ?_)
  · obtain ⟨fa, rfl, _⟩ := h
    rfl
  · obtain ⟨fa, rfl, hf, q⟩ := h
    refine ⟨_, (pss_cons (ps_set (i := 1) sc__law_heads.nd rfl (.inl rfl) (pe_lst pa_nil))
      (pss_cons (ps_for PassesOwn.never rfl (pi_tup (pe_ix ix_list (pe_lst (pa_cons (pe_tup (pa_cons pe_str (pa_cons pe_str pa_nil))) (pa_cons (pe_tup (pa_cons pe_str (pa_cons pe_str (pa_cons pe_str pa_nil)))) (pa_cons (pe_tup (pa_cons pe_str (pa_cons pe_str (pa_cons pe_str pa_nil)))) (pa_cons (pe_tup (pa_cons pe_str (pa_cons pe_str pa_nil))) pa_nil))))) (pc (h__law_draw D) hr (pa_cons (pv 0) (pa_cons pe_int pa_nil))) (fun _ _ => rfl))) (pg_name (i := 2) sc__law_heads.nd rfl (.inl rfl)) (pss_cons (ps_par (i := 3) (j := 4) (by rfl) sc__law_heads.nd rfl rfl (by decide) rfl rfl (pa_cons (pe_op op_sub (pc (h__law_draw D) hr (pa_cons (pv 0) (pa_cons pe_int pa_nil))) pe_int) (pa_cons (pc (h__law_variables D) hr (pa_cons (pv 0) pa_nil)) pa_nil)) (by rfl))
      (pss_one (ps_expr (pe_bm PySem.F.plainAttrs_list PySem.F.slot_list_append PySem.F.type_list_append mt_append (pv 1) (pa_cons (pe_tup (pa_cons (pv 2) (pa_cons (pv 3) (pa_cons (pe_op op_add (pv 3) (pc (h__law_draw D) hr (pa_cons (pv 0) (pa_cons pe_int pa_nil)))) (pa_cons (pv 4) (pa_cons (pc (h__law_draw D) hr (pa_cons (pv 0) (pa_cons (pe_op op_add (pe_callB call_len (by rfl) D.b_len (by decide +kernel) (pa_cons (pv 4) pa_nil)) pe_int) pa_nil))) pa_nil)))))) pa_nil))))))
      (pss_one (ps_ret (pv 1))))), ?_⟩
    -- found
    refine ⟨Nat.zero_le _, fun o no => ?_⟩
    have s0 : Same H (upd H o (.lst [])) := same_upd no
    have eo0 : (upd H o (.lst [])) o = some (.lst []) := upd_same
    generalize upd H o (.lst []) = H0 at s0 eo0
    -- the menus
    refine ⟨len2_line, fun c1 n1 => ⟨len3_line, fun c2 n2 => ⟨len3_line, fun c3 n3 => ⟨len2_line, fun c4 n4 => ⟨len4_line, fun l1 nl1 => ?_⟩⟩⟩⟩⟩
    have s1 : Same H0 (upd H0 c1 (.tup [.str "f", .str "main"])) := same_upd n1
    have e1 : (upd H0 c1 (.tup [.str "f", .str "main"])) c1 = some (.tup [.str "f", .str "main"]) := upd_same
    generalize upd H0 c1 (.tup [.str "f", .str "main"]) = H1 at s1 e1 n2 n3 n4 nl1
    have s2 : Same H1 (upd H1 c2 (.tup [.str "call", .str "end", .str "g"])) := same_upd n2
    have e2 : (upd H1 c2 (.tup [.str "call", .str "end", .str "g"])) c2 = some (.tup [.str "call", .str "end", .str "g"]) := upd_same
    generalize upd H1 c2 (.tup [.str "call", .str "end", .str "g"]) = H2 at s2 e2 n3 n4 nl1
    have s3 : Same H2 (upd H2 c3 (.tup [.str "p", .str "q", .str "zz"])) := same_upd n3
    have e3 : (upd H2 c3 (.tup [.str "p", .str "q", .str "zz"])) c3 = some (.tup [.str "p", .str "q", .str "zz"]) := upd_same
    generalize upd H2 c3 (.tup [.str "p", .str "q", .str "zz"]) = H3 at s3 e3 n4 nl1
    have s4 : Same H3 (upd H3 c4 (.tup [.str "main", .str "x"])) := same_upd n4
    have e4 : (upd H3 c4 (.tup [.str "main", .str "x"])) c4 = some (.tup [.str "main", .str "x"]) := upd_same
    generalize upd H3 c4 (.tup [.str "main", .str "x"]) = H4 at s4 e4 nl1
    have s5 : Same H4 (upd H4 l1 (.lst [.ref c1, .ref c2, .ref c3, .ref c4])) := same_upd nl1
    have e5 : (upd H4 l1 (.lst [.ref c1, .ref c2, .ref c3, .ref c4])) l1 = some (.lst [.ref c1, .ref c2, .ref c3, .ref c4]) := upd_same
    generalize upd H4 l1 (.lst [.ref c1, .ref c2, .ref c3, .ref c4]) = H5 at s5 e5
    have s05 : Same H0 H5 := s1.trans (s2.trans (s3.trans (s4.trans s5)))
    have hmen : ∀ k, k < 4 → ∃ c m, [V.ref c1, V.ref c2, V.ref c3, V.ref c4][k]? = some (.ref c) ∧ m ∈ hmenus ∧ H5 c = some (.tup (m.map V.str)) := fun k hk => by
      match k, hk with
      | 0, _ => exact ⟨c1, ["f", "main"], rfl, .head _, s5 _ _ (s4 _ _ (s3 _ _ (s2 _ _ e1)))⟩
      | 1, _ => exact ⟨c2, ["call", "end", "g"], rfl, .tail _ (.head _), s5 _ _ (s4 _ _ (s3 _ _ e2))⟩
      | 2, _ => exact ⟨c3, ["p", "q", "zz"], rfl, .tail _ (.tail _ (.head _)), s5 _ _ (s4 _ _ e3)⟩
      | 3, _ => exact ⟨c4, ["main", "x"], rfl, .tail _ (.tail _ (.tail _ (.head _))), s5 _ _ e4⟩
    have fr5 : Fr fa H H5 := Fr.of_same hf (s0.trans s05)
    refine ⟨_, rfl, fa, 4, rfl, fr5.2, by decide, by decide, fun k H6 hk fr6 => ?_⟩
    obtain ⟨ct, ws, hat, hm, hct⟩ := hmen k (by omega)
    obtain ⟨m2, m3, mok, masc⟩ := hmenus_ok ws hm
    have et6 : SqT K H6 ct (ws.map V.str) := .of (fr6.keep fr5.2 hct fun _ z => by cases z)
    have eo6 := fr6.lst fr5.2 (s05 _ _ eo0)
    refine ⟨l1, _, _, _, rfl, rfl, .of (fr6.lst fr5.2 e5), atI_nat hat, ct, rfl, ⟨_, et6⟩, ?_⟩
    refine for_tup (K := K) (a := ct) (xs := ws.map V.str) (fun i σ H' => Fr fa H H' ∧ SqT K H' ct (ws.map V.str) ∧ (∃ (hs : List Hd) (ys : List V), H' o = some (.lst ys) ∧ TpAll K H' ys (hs.map Hd.d) ∧ hs.map (·.nm) = ws.take i ∧ ∀ h ∈ hs, HdOk h) ∧ ∃ y2 y3 y4, σ = [some (.ref fa.1), some (.ref o), y2, y3, y4])
      ⟨fr5.trans fr6, et6, ⟨[], [], eo6, .nil, rfl, fun v hv => by cases hv⟩, none, none, none, rfl⟩ (fun i σ H' _ pp => pp.2.1) (fun i x σ G1 hx pp => ?_) (fun σ G1 pp => ?_)
    · obtain ⟨fr1, et1, ⟨hs, ys, eo1, hy, hnm, hok⟩, y2, y3, y4, rfl⟩ := pp
      rw [List.getElem?_map] at hx
      cases hwi : ws[i]? with
      | none => rw [hwi] at hx; cases hx
      | some z =>
        rw [hwi] at hx
        cases hx
        refine ⟨_, rfl, fa, 3, rfl, fr1.2, by decide, by decide, fun a G2 ha fr2 => ⟨_, _, rfl, rfl, ?_⟩⟩
        refine ⟨_, rfl, fa, rfl, fr2.2, fun vrs v G3 fr3 tv vok => ⟨_, _, rfl, ?_⟩⟩
        obtain ⟨av, xv, rfl, hSv, hAv⟩ := tv.tup_inv
        have fr13 := fr2.trans fr3
        have eo3 := fr13.lst fr1.2 eo1
        refine ⟨_, rfl, .inl ⟨rfl, _, .of eo3⟩, _, rfl, _, rfl, _, rfl, _, rfl, fa, 4, rfl, fr3.2, by decide, by decide, fun b G4 hb fr4 => ⟨_, _, rfl, rfl, ?_⟩⟩
        have hSv4 := fr4.tsm (K := K) fr3.2 _ _ hSv
        have hvl : xv.length = vrs.length := hAv.map_len
        have hvp := vok.len
        refine ⟨_, rfl, _, rfl, _, rfl, _, xv.length, rfl, .inr ⟨_, hSv4, rfl⟩, _, _, rfl, rfl, fa, _, rfl, fr4.2, by omega, by omega, fun m G5 hm' fr5 => ?_⟩
        have fr15 := fr13.trans (fr4.trans fr5)
        have tv5 : Tp K G5 (.ref av) (.tuple (vrs.map Vr.d)) := (Tp.tup hSv hAv).mono ((fr4.trans fr5).tsm fr3.2)
        refine ⟨len5_line, fun c nc => ?_⟩
        have s6 : Same G5 (upd G5 c (.tup [.str z, .int ((a : Nat) - 1), .int ((a : Nat) - 1 + (b : Nat)), .ref av, .int (m : Nat)])) := same_upd nc
        have e6 : (upd G5 c (.tup [.str z, .int ((a : Nat) - 1), .int ((a : Nat) - 1 + (b : Nat)), .ref av, .int (m : Nat)])) c = some (.tup [.str z, .int ((a : Nat) - 1), .int ((a : Nat) - 1 + (b : Nat)), .ref av, .int (m : Nat)]) := upd_same
        have fr16 := fr15.same s6
        have eo6 := fr16.lst fr1.2 eo1
        have hyl : ys.length ≤ 3 := by
          have h1 := congrArg List.length hnm
          rw [List.length_map, List.length_take] at h1
          rw [hy.map_len]
          omega
        refine ⟨o, _, _, rfl, rfl, eo6, small1000 (by omega), ?_⟩
        have t7 := tsm_upd (K := K) (o' := .lst (ys ++ [V.ref c])) eo6 rfl
        refine ⟨(fr1.trans fr16).put hf no, t7 _ _ (fr16.tsm (K := K) fr1.2 _ _ et1), ⟨hs ++ [⟨z, (a : Nat) - 1, (a : Nat) - 1 + (b : Nat), vrs, m⟩], ys ++ [.ref c], upd_same, ?_, ?_, fun v hv => ?_⟩, _, _, _, rfl⟩
        · rw [List.map_append]
          refine (hy.mono ((fr16.tsm fr1.2).trans t7)).append (.cons (.tup (t7 _ _ (.of e6)) ?_) .nil)
          exact .cons (.str _) (.cons (.int _) (.cons (.int _) (.cons (tv5.mono (s6.tsm.trans t7)) (.cons (.int _) .nil))))
        · rw [List.map_append, hnm, List.take_add_one, hwi]
          rfl
        · rcases List.mem_append.mp hv with hv | hv
          · exact hok v hv
          · rcases List.mem_singleton.mp hv with rfl
            refine ⟨mok z (List.mem_of_getElem? hwi), ?_, vok, ?_⟩
            · show ((a : Nat) : Int) - 1 ≤ (a : Nat) - 1 + (b : Nat)
              omega
            · show m ≤ vrs.length
              omega
    · obtain ⟨fr1, et1, ⟨hs, ys, eo1, hy, hnm, hok⟩, y2, y3, y4, rfl⟩ := pp
      rw [List.length_map, List.take_length] at hnm
      exact ⟨_, rfl, q hs o ys G1 fr1 eo1 hy ⟨by rw [hnm]; exact hm, hok⟩⟩
end
end B9

/-! Plain rows. -/
namespace B9
open PySem PySem.Spec PyProof.Rows L2

def hcnt (hs : List Hd) (g : Str) : Option Nat := (hs.find? fun h => decide (h.nm = g)).map (·.many)
structure RowOk (ns : List Str) (hs : List Hd) (row : Rw) : Prop where
  ok : row.ok = true
  len : row.parts.length ≤ 3
  fit : rowFits ns (hcnt hs) row = true
theorem asc_nd {xs : List Str} (h : xs.Pairwise fun a b => a.cps.toList < b.cps.toList) : xs.Nodup := h.imp fun {a b} l e => by
  rw [e] at l
  exact absurd l (List.lt_irrefl _)
theorem find_nm {hs : List Hd} {h : Hd} (hn : (hs.map (·.nm)).Nodup) (hm : h ∈ hs) : hs.find? (fun z => decide (z.nm = h.nm)) = some h := by
  induction hs with
  | nil => cases hm
  | cons g r ih =>
    rw [List.map_cons, List.nodup_cons] at hn
    rw [List.find?_cons]
    rcases List.mem_cons.mp hm with rfl | hm
    · rw [decide_eq_true rfl]
    · have : g.nm ≠ h.nm := fun e => hn.1 (List.mem_map.mpr ⟨h, hm, e.symm⟩)
      rw [decide_eq_false this]
      exact ih hn.2 hm
theorem HdsOk.nd {hs : List Hd} (h : HdsOk hs) : (hs.map (·.nm)).Nodup := asc_nd (hmenus_ok _ h.menu).2.2.2
theorem HdsOk.len {hs : List Hd} (h : HdsOk hs) : 2 ≤ hs.length ∧ hs.length ≤ 3 := by
  obtain ⟨h1, h2, _⟩ := hmenus_ok _ h.menu
  rw [List.length_map] at h1 h2
  exact ⟨h1, h2⟩
theorem hcnt_of {hs : List Hd} {h : Hd} (hk : HdsOk hs) (hm : h ∈ hs) : hcnt hs h.nm = some h.many := by
  unfold hcnt
  rw [find_nm hk.nd hm]
  rfl
theorem Hd.inv {K : PySem.W.Frag} {H : Hp} {v : V} {h : Hd} (t : Tp K H v h.d) : ∃ a v3, v = .ref a ∧ SqT K H a [.str h.nm, .int h.lo, .int h.hi, v3, .int h.many] ∧ Tp K H v3 (.tuple (h.vars.map Vr.d)) := by
  obtain ⟨a, xs, rfl, hS, hA⟩ := Tp.tup_inv t
  obtain ⟨v0, xs, rfl, t0, hA⟩ := hA.cons_inv
  obtain ⟨v1, xs, rfl, t1, hA⟩ := hA.cons_inv
  obtain ⟨v2, xs, rfl, t2, hA⟩ := hA.cons_inv
  obtain ⟨v3, xs, rfl, t3, hA⟩ := hA.cons_inv
  obtain ⟨v4, xs, rfl, t4, hA⟩ := hA.cons_inv
  obtain rfl := hA.nil_inv
  obtain rfl := t0.str_inv
  obtain rfl := t1.int_inv
  obtain rfl := t2.int_inv
  obtain rfl := t4.int_inv
  exact ⟨a, v3, rfl, hS, t3⟩
theorem ExOk.le {ns : List Str} {n m : Nat} {e : Ex} (h : ExOk ns n e) (k : n ≤ m) : ExOk ns m e := ⟨h.1, Nat.le_trans h.2.1 k, h.2.2⟩
/-- the surroundings of a block: the feed, the names, the heads -/
structure Sur (K : PySem.W.Frag) (H : Hp) (fa : Addr × Addr) (an hp : Addr) (ns : List Str) (hs : List Hd) : Prop where
  feed : FeedAt H fa
  names : SqT K H an (ns.map V.str)
  nok : NmOk ns
  pos : 1 ≤ ns.length
  heads : ∃ ys, H hp = some (.lst ys) ∧ TpAll K H ys (hs.map Hd.d)
  hok : HdsOk hs
theorem Sur.mono {K : PySem.W.Frag} {H H' : Hp} {fa : Addr × Addr} {an hp : Addr} {ns : List Str} {hs : List Hd} (s : Sur K H fa an hp ns hs) (x : Fr fa H H') : Sur K H' fa an hp ns hs := by
  obtain ⟨ys, e, t⟩ := s.heads
  exact ⟨x.2, x.tsm s.feed _ _ s.names, s.nok, s.pos, ⟨ys, x.lst s.feed e, t.mono (x.tsm s.feed)⟩, s.hok⟩
section
variable {P : Program} {w : World} {K : PySem.W.Frag} {mg : Str → Option Value} {base : Heap}
def spPlain (K : PySem.W.Frag) : Sp := fun vs H Q _ => ∃ (fa : Addr × Addr) (an hp : Addr) (ns : List Str) (hs : List Hd) (way : Int), vs = [.ref fa.1, .ref an, .ref hp, .int way] ∧ Sur K H fa an hp ns hs ∧
  ∀ row v H', Fr fa H H' → Tp K H' v (Rw.d row) → row.jmp = false → RowOk ns hs row → Q v H'
theorem h__law_plain_row (D : Dfs w K mg) : Has P w K mg base 6 "_law_plain_row" (spPlain K) := by
  refine D.f__law_plain_row.has sc__law_plain_row (fun vs H Q E h => ?_) (fun f cdv A outer s H vs Q E hr h => ?_)
  · obtain ⟨fa, an, hp, ns, hs, way, rfl, _⟩ := h
    rfl
  · obtain ⟨fa, an, hp, ns, hs, way, rfl, su, q⟩ := h
    have F2 : Has P w K mg base 5 "_law_formula" (spForm K 2) := h__law_formula D 2 (by decide)
    have F1 : Has P w K mg base 4 "_law_formula" (spForm K 1) := h__law_formula D 1 (by decide)
    refine ⟨_, (pss_cons (ps_set (i := 4) sc__law_plain_row.nd rfl (.inl rfl) (pc F2 hr (pa_cons (pv 0) (pa_cons (pv 1) (pa_cons pe_int pa_nil)))))
      (pss_cons (ps_if (pt_cmpR op_eq (pv 3) pe_int (nomark _)) (pss_one (ps_ret (pe_tup (pa_cons pe_str (pa_cons (pv 4) pa_nil))))) pss_nil)
      (pss_cons (ps_set (i := 5) sc__law_plain_row.nd rfl (.inl rfl) (pe_ix ix_tup (pv 1) (pc (h__law_draw D) hr (pa_cons (pv 0) (pa_cons (pe_callB call_len (by rfl) D.b_len (by decide +kernel) (pa_cons (pv 1) pa_nil)) pa_nil))) (fun _ _ => rfl)))
      (pss_cons (ps_if (pt_cmpR op_ne (pv 3) pe_int (nomark _)) (pss_one (ps_ret (pe_tup (pa_cons pe_str (pa_cons (pv 5) (pa_cons (pv 4) pa_nil)))))) pss_nil)
      (pss_cons (ps_set (i := 6) sc__law_plain_row.nd rfl (.inl rfl) (pe_ix ix_list (pv 2) (pc (h__law_draw D) hr (pa_cons (pv 0) (pa_cons (pe_callB call_len (by rfl) D.b_len (by decide +kernel) (pa_cons (pv 2) pa_nil)) pa_nil))) (fun _ _ => rfl)))
      (pss_one (ps_ret (pe_tup (pa_cons pe_str (pa_cons (pv 5) (pa_cons (pe_ix ix_tup (pv 6) pe_int (fun _ _ => rfl)) (pa_cons (pe_callTy call_tuple_of (by rfl) D.b_tuple (by decide +kernel) (pa_cons (pe_lc (own := [("_law_k", 7)]) (by rfl) sc__law_plain_row.nd (pi_range1 (by rfl) D.b_range (pa_cons (pe_ix ix_tup (pv 6) pe_int (fun _ _ => rfl)) pa_nil)) (blkOk_by (own := [("_law_k", 7)]) (N := N__law_plain_row) (sc := defScope s__law_plain_row) (by decide +kernel)) (fun _ _ _ _ _ => (pg_name (i := 7) sc__law_plain_row.nd rfl (Or.inl rfl))) (fun _ _ _ _ _ => pts_nil) (fun _ _ _ _ _ => (pc F1 hr (pa_cons (pv 0) (pa_cons (pv 1) (pa_cons pe_int pa_nil)))))) pa_nil)) pa_nil)))))))))))), ?_⟩
    have nl := su.nok.len
    have np := su.pos
    -- the formula
    refine ⟨_, rfl, _, rfl, fa, an, ns, rfl, su.feed, su.names, su.nok, fun e ve H1 fr1 te eok => ?_⟩
    have su1 := su.mono fr1
    have ed : e.depth ≤ maxD := Nat.le_trans eok.2.1 (by decide)
    refine ⟨_, rfl, rfl, _, rfl, ite2 (fun _ => ?_) (fun _ => ?_)⟩
    · -- return
      refine ⟨_, rfl, len2_line, fun c nc => ?_⟩
      have s2 : Same H1 (upd H1 c (.tup [.str "return", ve])) := same_upd nc
      refine q (.ret e) _ _ (fr1.same s2) (.tup (.of upd_same) (.cons (.str _) (.cons (te.mono s2.tsm) .nil))) rfl ⟨?_, by show 1 ≤ 3; decide, eok.2.2⟩
      unfold Rw.ok
      simp [Rw.nms, Rw.parts, eok.1, ed]
    -- the name
    refine ⟨_, rfl, _, rfl, _, rfl, _, ns.length, rfl, .inr ⟨_, su1.names, by rw [List.length_map]⟩, fa, _, rfl, su1.feed, by omega, by omega, fun k H2 hk fr2 => ?_⟩
    have hk' : k < ns.length := by omega
    have su2 := su1.mono fr2
    have te2 := te.mono (fr2.tsm fr1.2)
    refine ⟨an, _, _, .str ns[k], rfl, rfl, su2.names, atI_nat (by rw [List.getElem?_map, List.getElem?_eq_getElem hk']; rfl), ?_⟩
    have hxm : ns[k] ∈ ns := List.getElem_mem hk'
    generalize ns[k] = x at hxm
    have hxo := su.nok.ok x hxm
    refine ⟨_, rfl, rfl, _, rfl, ite2 (fun _ => ?_) (fun _ => ?_)⟩
    · -- set
      refine ⟨_, rfl, _, rfl, len3_line, fun c nc => ?_⟩
      have s3 : Same H2 (upd H2 c (.tup [.str "set", .str x, ve])) := same_upd nc
      refine q (.set x e) _ _ (fr1.trans (fr2.same s3)) (.tup (.of upd_same) (.cons (.str _) (.cons (.str _) (.cons (te2.mono s3.tsm) .nil)))) rfl ⟨?_, by show 1 ≤ 3; decide, ?_⟩
      · unfold Rw.ok
        simp [Rw.nms, Rw.parts, eok.1, ed, hxo]
      · show (decide (x ∈ ns) && e.fits ns) = true
        rw [decide_eq_true hxm, eok.2.2]
        rfl
    -- the other
    obtain ⟨ys, eh, hh⟩ := su2.heads
    have hyl : ys.length = hs.length := hh.map_len
    obtain ⟨hl2, hl3⟩ := su.hok.len
    refine ⟨_, rfl, _, rfl, _, rfl, _, hs.length, rfl, .inl ⟨_, .of eh, hyl.symm⟩, fa, _, rfl, su2.feed, by omega, by omega, fun j H3 hj fr3 => ?_⟩
    have hj' : j < hs.length := by omega
    obtain ⟨vo, hvo, to'⟩ := hh.at (i := j) (d := hs[j].d) (by rw [List.getElem?_map, List.getElem?_eq_getElem hj']; rfl)
    have to3 := to'.mono (fr3.tsm fr2.2)
    obtain ⟨ao, v3, rfl, hSo, _⟩ := Hd.inv to3
    have eh3 := fr3.lst fr2.2 eh
    refine ⟨hp, _, _, _, rfl, rfl, .of eh3, atI_nat hvo, ?_⟩
    have hom : hs[j] ∈ hs := List.getElem_mem hj'
    generalize hs[j] = ot at hom hSo
    have hoo := su.hok.ok ot hom
    have su3 := su2.mono fr3
    have hmany : ot.many ≤ 3 := by have := hoo.many; have := hoo.vars.len; omega
    -- call
    refine ⟨_, rfl, _, rfl, ao, _, 0, _, rfl, rfl, hSo, at0, _, rfl, ao, _, 4, _, rfl, rfl, hSo, at4, _, rfl, by omega, by omega, fun Dl nL => ?_⟩
    rw [Int.toNat_natCast]
    refine walkR (lo := 0) (n := ot.many) (PvN K fa H3 Dl Ex.d (ExOk ns 1)) (PvN.zero fr3.2 nL) (fun i H4 hi p4 => ?_) (fun H4 p4 => ?_)
    · have su4 := su3.mono p4.1
      exact ⟨rfl, _, rfl, _, rfl, fa, an, ns, rfl, su4.feed, su4.names, su4.nok, fun e' v H5 fr5 tv ok => PvN.step fr3.2 nL p4 (by omega) fr5 tv ok⟩
    · obtain ⟨fr4, es, zs, hl, ez, hz, hg⟩ := p4
      refine ⟨Dl, zs, rfl, .inl ⟨.of ez, fun l nl => ?_⟩⟩
      have s5 : Same H4 (upd H4 l (.tup zs)) := same_upd nl
      have e5 : (upd H4 l (.tup zs)) l = some (.tup zs) := upd_same
      generalize upd H4 l (.tup zs) = H5 at s5 e5
      refine ⟨len4_line, fun c nc => ?_⟩
      have s6 : Same H5 (upd H5 c (.tup [.str "call", .str x, .str ot.nm, .ref l])) := same_upd nc
      refine q (.call x ot.nm es) _ _ (fr1.trans (fr2.trans (fr3.trans (fr4.same (s5.trans s6))))) ?_ rfl ⟨?_, by show es.length ≤ 3; omega, ?_⟩
      · refine .tup (.of upd_same) (.cons (.str _) (.cons (.str _) (.cons (.str _) (.cons ?_ .nil))))
        exact .tup (.of (s6 _ _ e5)) (hz.mono (s5.trans s6).tsm)
      · unfold Rw.ok
        simp only [Rw.nms, Rw.parts, List.all_cons, List.all_nil, hxo, hoo.nm, Bool.and_true, Bool.true_and, List.all_eq_true, Bool.and_eq_true, decide_eq_true_eq]
        exact fun e' he' => ⟨(hg e' he').1, Nat.le_trans (hg e' he').2.1 (by decide)⟩
      · show (decide (x ∈ ns) && decide (hcnt hs ot.nm = some es.length) && es.all fun e => e.fits ns) = true
        rw [decide_eq_true hxm, hcnt_of su.hok hom, hl, decide_eq_true rfl, Bool.true_and, Bool.true_and, List.all_eq_true]
        exact fun e' he' => (hg e' he').2.2
end
end B9

/-! Blocks that are drawn. -/
namespace B9
open PySem PySem.Spec PyProof.Rows L2

def stp : Nat → Nat
  | 0 => 1
  | n + 1 => 6 * stp n + 3
theorem stp_le {n : Nat} (h : n ≤ 2) : stp n ≤ 57 := by
  match n, h with
  | 0, _ => decide
  | 1, _ => decide
  | 2, _ => decide
theorem stp_pred {n : Nat} (h : 1 ≤ n) : stp n = 6 * stp (n - 1) + 3 := by
  obtain ⟨m, rfl⟩ : ∃ m, n = m + 1 := ⟨n - 1, by omega⟩
  rfl
theorem stp_pos (n : Nat) : 1 ≤ stp n := by
  cases n with
  | zero => exact Nat.le_refl _
  | succ n => show 1 ≤ 6 * stp n + 3; omega
def wdOf (b : Bool) : Str := if b then "if" else "while"
def rowOf (b : Bool) (e : Ex) : Rw := if b then .ifr e else .whl e
theorem rowOf_d (b : Bool) (e : Ex) : (rowOf b e).d = .tuple [.str (wdOf b), e.d] := by cases b <;> rfl
theorem rowOf_tp {K : PySem.W.Frag} {H : Hp} {c : Addr} {v : V} {b : Bool} {e : Ex} (h : SqT K H c [.str (wdOf b), v]) (t : Tp K H v e.d) : Tp K H (.ref c) (rowOf b e).d := by
  rw [rowOf_d]
  exact .tup h (.cons (.str _) (.cons t .nil))
theorem rowOf_ok {ns : List Str} {hs : List Hd} {b : Bool} {e : Ex} (h : ExOk ns 2 e) : RowOk ns hs (rowOf b e) := by
  have hd : e.depth ≤ maxD := Nat.le_trans h.2.1 (by decide)
  cases b with
  | true => exact ⟨by unfold Rw.ok; simp [rowOf, Rw.nms, Rw.parts, h.1, hd], by show 1 ≤ 3; decide, h.2.2⟩
  | false => exact ⟨by unfold Rw.ok; simp [rowOf, Rw.nms, Rw.parts, h.1, hd], by show 1 ≤ 3; decide, h.2.2⟩
theorem nd_ok {ns : List Str} {hs : List Hd} : RowOk ns hs .nd := ⟨rfl, Nat.zero_le _, rfl⟩
theorem els_ok {ns : List Str} {hs : List Hd} : RowOk ns hs .els := ⟨rfl, Nat.zero_le _, rfl⟩
def moRows : Option Sq → List Rw
  | none => []
  | some c => .els :: c.rows
def moSize : Option Sq → Nat
  | none => 0
  | some c => c.size + 1
def moOk : Option Sq → Bool
  | none => true
  | some c => c.ok
theorem mo_len (mo : Option Sq) : (moRows mo).length = moSize mo := by
  cases mo with
  | none => rfl
  | some c => show c.rows.length + 1 = c.size + 1; rw [Sq.rows_len]
def mkSq (b : Bool) (e : Ex) (s : Sq) : Option Sq → Sq
  | none => if b then .ife e s .nil else .whl e s .nil
  | some c => .ifel e s c .nil
theorem mkSq_rows {b : Bool} {e : Ex} {s : Sq} {mo : Option Sq} (h : b = false → mo.isNone = true) : (mkSq b e s mo).rows = rowOf b e :: (s.rows ++ (moRows mo ++ [.nd])) := by
  cases mo with
  | none => cases b <;> rfl
  | some c =>
    cases b with
    | false => cases h rfl
    | true => simp [mkSq, Sq.rows, rowOf, moRows]
theorem mkSq_size {b : Bool} {e : Ex} {s : Sq} {mo : Option Sq} (h : b = false → mo.isNone = true) : (mkSq b e s mo).size = s.size + moSize mo + 2 := by
  rw [← Sq.rows_len, mkSq_rows h, List.length_cons, List.length_append, List.length_append, Sq.rows_len, mo_len]
  rfl
theorem mkSq_ok (b : Bool) (e : Ex) {s : Sq} {mo : Option Sq} (h : s.ok = true) (hm : moOk mo = true) : (mkSq b e s mo).ok = true := by
  cases mo with
  | none => cases b <;> simp [mkSq, Sq.ok, h]
  | some c =>
    have hm : c.ok = true := hm
    simp [mkSq, Sq.ok, h, hm]
theorem blk_data {K : PySem.W.Frag} {H : Hp} {c c2 : V} {ys zs : List V} {r : PyData} {ds es : List PyData} {r2 : PyData} (a : Tp K H c r) (b : TpAll K H ys ds) (d : TpAll K H zs es) (e : Tp K H c2 r2) : TpAll K H ((([c] ++ ys) ++ zs) ++ [c2]) (r :: (ds ++ (es ++ [r2]))) := by
  rw [List.append_assoc, List.append_assoc]
  exact .cons a (b.append (d.append (.cons e .nil)))
theorem way_of {w : Nat} (h : inV (.int w) [.int 3, .int 4] = true) : ∃ b : Bool, atI [V.str "if", .str "while"] (((w : Nat) : Int) - 3) = some (.str (wdOf b)) := by
  have : w = 3 ∨ w = 4 := by
    have h' : (((3 : Int) == (w : Int)) || (((4 : Int) == (w : Int)) || false)) = true := h
    simp only [Bool.or_false, Bool.or_eq_true, beq_iff_eq] at h'
    omega
  rcases this with rfl | rfl
  · exact ⟨true, atI_nat (j := 0) rfl⟩
  · exact ⟨false, atI_nat (j := 1) rfl⟩

section
variable {P : Program} {w : World} {K : PySem.W.Frag} {mg : Str → Option Value} {base : Heap}
def spBlk (K : PySem.W.Frag) (n : Nat) : Sp := fun vs H Q _ => ∃ (fa : Addr × Addr) (an hp : Addr) (ns : List Str) (hs : List Hd) (left : Int), vs = [.ref fa.1, .ref an, .ref hp, .int n, .int left] ∧ Sur K H fa an hp ns hs ∧
  ∀ (s : Sq) (t p : Addr) (ys : List V) (left' : Int) H', Fr fa H H' → SqT K H' t [.ref p, .int left'] → H' p = some (.lst ys) → TpAll K H' ys (s.rows.map Rw.d) → s.ok = true → (∀ r ∈ s.rows, RowOk ns hs r) → s.size ≤ 3 * stp n → Q (.ref t) H'
theorem blk_args {a b c : Addr} {n : Nat} {x : V} (h : 1 ≤ n) : [V.ref a, V.ref b, V.ref c, V.int ((n : Nat) - 1), x] = [V.ref a, V.ref b, V.ref c, V.int ((n - 1 : Nat) : Int), x] := by
  rw [show ((n : Nat) : Int) - 1 = ((n - 1 : Nat) : Int) by omega]
theorem h_blk_step (D : Dfs w K mg) (n : Nat) (hn : n ≤ 2) (ih : ∀ m, m < n → Has P w K mg base (m + 7) "_law_block" (spBlk K m)) : Has P w K mg base (n + 6 + 1) "_law_block" (spBlk K n) := by
  refine D.f__law_block.has sc__law_block (fun vs H Q E h => ?_) (fun f cdv A outer s H vs Q E hr h => ?_)
  · obtain ⟨fa, an, hp, ns, hs, left, rfl, _⟩ := h
    rfl
  · obtain ⟨fa, an, hp, ns, hs, left, rfl, su, q⟩ := h
    have F2 : Has P w K mg base 5 "_law_formula" (spForm K 2) := h__law_formula D 2 (by decide)
    have ihn : Has P w K mg base (n + 6) "_law_block" (fun vs H Q E => 1 ≤ n ∧ spBlk K (n - 1) vs H Q E) := by
      by_cases h1 : 1 ≤ n
      · exact (ih (n - 1) (by omega)).imp (by omega) fun _ _ _ _ z => z.2
      · obtain ⟨f', fd', F, b, g⟩ := D.f__law_block
        exact ⟨f', g, fd', _, ⟨fun vs H Q E z => absurd z.1 h1, fun _ _ _ _ _ _ _ _ _ _ _ _ _ z => absurd z.1 h1⟩, F.kp, b⟩
    have hstp := stp_le hn
    refine ⟨_, (pss_cons (ps_set (i := 5) sc__law_block.nd rfl (.inl rfl) (pe_lst pa_nil))
      (pss_cons (ps_for PassesOwn.never rfl (pi_range1 (by rfl) D.b_range (pa_cons (pe_op op_add pe_int (pc (h__law_draw D) hr (pa_cons (pv 0) (pa_cons pe_int pa_nil)))) pa_nil)) (pg_name (i := 6) sc__law_block.nd rfl (.inl rfl)) (pss_cons (ps_set (i := 7) sc__law_block.nd rfl (.inl rfl) (pc (h__law_draw D) hr (pa_cons (pv 0) (pa_cons pe_int pa_nil))))
      (pss_one (ps_if (PW.pt (pw_and (pt_cmpR op_in_seq (pv 7) (pe_tup (pa_cons pe_int (pa_cons pe_int pa_nil))) (by rfl)) (pw_and (pt_cmpR op_gt (pv 3) pe_int (nomark _)) (pw_and1 (pt_cmpR op_gt (pv 4) pe_int (nomark _)))))) (pss_cons (ps_par (i := 8) (j := 9) (by rfl) sc__law_block.nd rfl rfl (by decide) rfl rfl (pa_cons (pe_ix ix_list (pe_lst (pa_cons pe_str (pa_cons pe_str pa_nil))) (pe_op op_sub (pv 7) pe_int) (fun _ _ => rfl)) (pa_cons (pe_lst pa_nil) pa_nil)) (by rfl))
      (pss_cons (ps_asg (pc ihn hr (pa_cons (pv 0) (pa_cons (pv 1) (pa_cons (pv 2) (pa_cons (pe_op op_sub (pv 3) pe_int) (pa_cons (pe_op op_sub (pv 4) pe_int) pa_nil)))))) (pg_tup rfl (pgs_cons (pg_name (i := 10) sc__law_block.nd rfl (.inl rfl)) (pgs_cons (pg_name (i := 4) sc__law_block.nd rfl (.inl rfl)) pgs_nil))))
      (pss_cons (ps_if (PW.pt (pw_and (pt_cmpR op_eq (pv 8) pe_str (nomark _)) (pw_and1 (pt_cmpR op_eq (pc (h__law_draw D) hr (pa_cons (pv 0) (pa_cons pe_int pa_nil))) pe_int (nomark _))))) (pss_cons (ps_asg (pc ihn hr (pa_cons (pv 0) (pa_cons (pv 1) (pa_cons (pv 2) (pa_cons (pe_op op_sub (pv 3) pe_int) (pa_cons (pv 4) pa_nil)))))) (pg_tup rfl (pgs_cons (pg_name (i := 9) sc__law_block.nd rfl (.inl rfl)) (pgs_cons (pg_name (i := 4) sc__law_block.nd rfl (.inl rfl)) pgs_nil))))
      (pss_one (ps_set (i := 9) sc__law_block.nd rfl (.inl rfl) (pe_op op_cat (pe_lst (pa_cons (pe_tup (pa_cons pe_str pa_nil)) pa_nil)) (pv 9))))) pss_nil)
      (pss_one (ps_expr (pe_bm PySem.F.plainAttrs_list PySem.F.slot_list_extend PySem.F.type_list_extend mt_extend (pv 5) (pa_cons (pe_op op_cat (pe_op op_cat (pe_op op_cat (pe_lst (pa_cons (pe_tup (pa_cons (pv 8) (pa_cons (pc F2 hr (pa_cons (pv 0) (pa_cons (pv 1) (pa_cons pe_int pa_nil)))) pa_nil))) pa_nil)) (pv 10)) (pv 9)) (pe_lst (pa_cons (pe_tup (pa_cons pe_str pa_nil)) pa_nil))) pa_nil))))))) (pss_cons (ps_set (i := 11) sc__law_block.nd rfl (.inl rfl) (pc (h__law_plain_row D) hr (pa_cons (pv 0) (pa_cons (pv 1) (pa_cons (pv 2) (pa_cons (pv 7) pa_nil))))))
      (pss_cons (ps_set (i := 12) sc__law_block.nd rfl (.inl rfl) (pe_callB (call_max2 rfl) (by rfl) D.b_max (by decide +kernel) (pa_cons pe_int (pa_cons (pe_callB call_len (by rfl) D.b_len (by decide +kernel) (pa_cons (pc (h__law_parts D) hr (pa_cons (pv 11) pa_nil)) pa_nil)) pa_nil))))
      (pss_one (ps_if (pt_cmpR op_le (pv 12) (pv 4) (nomark _)) (pss_cons (ps_expr (pe_bm PySem.F.plainAttrs_list PySem.F.slot_list_append PySem.F.type_list_append mt_append (pv 5) (pa_cons (pv 11) pa_nil)))
      (pss_one (ps_set (i := 4) sc__law_block.nd rfl (.inl rfl) (pe_op op_sub (pv 4) (pv 12))))) pss_nil))))))))
      (pss_one (ps_ret (pe_tup (pa_cons (pv 5) (pa_cons (pv 4) pa_nil))))))), ?_⟩
    -- found
    refine ⟨Nat.zero_le _, fun o no => ?_⟩
    have s0 : Same H (upd H o (.lst [])) := same_upd no
    have eo0 : (upd H o (.lst [])) o = some (.lst []) := upd_same
    generalize upd H o (.lst []) = H0 at s0 eo0
    have fr0 := Fr.of_same su.feed s0
    refine ⟨_, rfl, fa, 3, rfl, fr0.2, by decide, by decide, fun k H1 hk fr1 => ⟨_, _, rfl, rfl, _, rfl, by omega, by omega, ?_⟩⟩
    have ek : ((1 : Int) + (k : Nat)).toNat = k + 1 := by omega
    show ∃ W, _
    rw [ek]
    have fr01 := fr0.trans fr1
    refine for_range (lo := 0) (n := k + 1) (fun i σ H' => Fr fa H H' ∧ (∃ (s : Sq) (ys : List V), H' o = some (.lst ys) ∧ TpAll K H' ys (s.rows.map Rw.d) ∧ s.ok = true ∧ (∀ r ∈ s.rows, RowOk ns hs r) ∧ s.size ≤ i * stp n) ∧ ∃ (left : Int) (y6 y7 y8 y9 y10 y11 y12 : Option V), σ = [some (.ref fa.1), some (.ref an), some (.ref hp), some (.int n), some (.int left), some (.ref o), y6, y7, y8, y9, y10, y11, y12])
      ⟨fr01, ⟨.nil, [], fr1.lst fr0.2 eo0, .nil, rfl, (fun r hr => by cases hr), Nat.zero_le _⟩, left, none, none, none, none, none, none, none, rfl⟩ (fun i σ H2 hi pp => ?_) (fun σ H2 pp => ?_)
    · obtain ⟨frt, ⟨s, ys, eo, hy, sok, srok, ssz⟩, left, y6, y7, y8, y9, y10, y11, y12, rfl⟩ := pp
      have sut := su.mono frt
      have hi3 : i ≤ 2 := by omega
      have hb114 : s.size ≤ 114 := Nat.le_trans ssz (Nat.le_trans (Nat.mul_le_mul hi3 hstp) (by decide))
      -- way
      refine ⟨_, rfl, fa, 7, rfl, sut.feed, by decide, by decide, fun wy H3 hwy fr3 => ?_⟩
      refine ⟨_, rfl, len2_line, fun c4 nc4 => ?_⟩
      have s4 : Same H3 (upd H3 c4 (.tup [.int 3, .int 4])) := same_upd nc4
      refine ⟨c4, _, rfl, .inr (.of upd_same), rfl, rfl, _, rfl, ?_⟩
      generalize upd H3 c4 (.tup [.int 3, .int 4]) = H4 at s4
      have fr24 := fr3.same s4
      have su4 := sut.mono fr24
      have eo4 := fr24.lst sut.feed eo
      have hy4 := hy.mono (fr24.tsm sut.feed)
      have hyl : ys.length = s.size := by rw [hy.map_len, Sq.rows_len]
      refine (fun tail => ite2 (fun hw => ⟨_, rfl, _, _, rfl, rfl, _, rfl, ite2 (fun hdp => ⟨_, rfl, _, _, rfl, rfl, _, rfl, ite2 (fun _ => ?_) (fun _ => tail)⟩) (fun _ => iteF tail)⟩) (fun _ => iteF tail)) ?_
      · -- a plain row
        refine ⟨_, rfl, _, rfl, _, rfl, _, rfl, fa, an, hp, ns, hs, _, rfl, su4, fun row v H5 fr5 tv hj rok => ?_⟩
        refine ⟨_, rfl, v, row, rfl, tv, hj, fun pp xs H6 s6 hS hxl => ?_⟩
        have fr46 := fr5.same s6
        refine ⟨_, _, rfl, .inr ⟨_, hS, rfl⟩, _, _, rfl, ?_⟩
        have eo6 := fr46.lst su4.feed eo4
        have hy6 := hy4.mono (fr46.tsm su4.feed)
        have fr26 := fr24.trans fr46
        refine ⟨_, rfl, _, rfl, _, _, rfl, rfl, _, rfl, ite2 (fun _ => ?_) (fun _ => ?_)⟩
        · refine ⟨_, rfl, .inl ⟨rfl, _, .of eo6⟩, _, rfl, o, _, _, rfl, rfl, eo6, small1000 (by omega), ?_⟩
          have t7 := tsm_upd (K := K) (o' := .lst (ys ++ [v])) eo6 rfl
          refine ⟨_, rfl, _, rfl, _, _, rfl, rfl, (frt.trans fr26).put su.feed no, ⟨s.app (.plain row .nil), _, upd_same, ?_, ?_, ?_, ?_⟩, _, _, _, _, _, _, _, _, rfl⟩
          · rw [Sq.app_rows, List.map_append]
            exact (hy6.mono t7).append (.cons (tv.mono (s6.tsm.trans t7)) .nil)
          · rw [Sq.app_ok, sok]
            simp [Sq.ok, hj]
          · intro r hr
            rw [Sq.app_rows] at hr
            rcases List.mem_append.mp hr with hr | hr
            · exact srok r hr
            · rcases List.mem_singleton.mp hr with rfl
              exact rok
          · rw [Sq.app_size, Nat.add_mul, Nat.one_mul]
            have := stp_pos n
            show s.size + 1 ≤ _
            omega
        · exact ⟨frt.trans fr26, ⟨s, ys, eo6, hy6, sok, srok, Nat.le_trans ssz (Nat.mul_le_mul_right _ (Nat.le_succ _))⟩, _, _, _, _, _, _, _, _, rfl⟩
      · -- a block
        have h1n : 1 ≤ n := by
          have := of_decide_eq_true hdp
          omega
        have hsp := stp_pred h1n
        obtain ⟨b, hwd⟩ := way_of hw
        refine ⟨len2_line, fun l5 nl5 => ?_⟩
        have s5 : Same H4 (upd H4 l5 (.lst [.str "if", .str "while"])) := same_upd nl5
        have el5 : (upd H4 l5 (.lst [.str "if", .str "while"])) l5 = some (.lst [.str "if", .str "while"]) := upd_same
        generalize upd H4 l5 (.lst [.str "if", .str "while"]) = H5 at s5 el5
        refine ⟨_, rfl, _, _, rfl, rfl, l5, _, _, _, rfl, rfl, .of el5, hwd, Nat.zero_le _, fun mp0 nm0 => ⟨_, _, rfl, ?_⟩⟩
        have s6 : Same H5 (upd H5 mp0 (.lst [])) := same_upd nm0
        have em6 : (upd H5 mp0 (.lst [])) mp0 = some (.lst []) := upd_same
        generalize upd H5 mp0 (.lst []) = H6 at s6 em6
        have fr46 := Fr.of_same su4.feed (s5.trans s6)
        have su6 := su4.mono fr46
        -- the inner block
        refine ⟨_, rfl, _, rfl, _, rfl, _, rfl, _, _, rfl, rfl, _, rfl, _, _, rfl, rfl, h1n, fa, an, hp, ns, hs, _, blk_args h1n, su6, fun s1 t1 p1 ys1 left1 Hb frb ht1 e1 ty1 s1ok s1rok s1sz => ?_⟩
        have su_b := su6.mono frb
        have frtb := frt.trans (fr24.trans (fr46.trans frb))
        refine ⟨t1, _, rfl, ht1, rfl, _, _, rfl, _, _, rfl, rfl, ?_⟩
        have emb := frb.lst su6.feed em6
        have fr4b := fr46.trans frb
        have eob := fr4b.lst su4.feed eo4
        have hyb := hy4.mono (fr4b.tsm su4.feed)
        have hl1 : ys1.length = s1.size := by rw [ty1.map_len, Sq.rows_len]
        refine ⟨_, rfl, rfl, _, rfl, ite2 (fun hb => ?_) (fun _ => iteF ?_)⟩
        · refine ⟨_, rfl, fa, 2, rfl, su_b.feed, by decide, by decide, fun dd Hd hdd frd => ⟨rfl, _, rfl, ite2 (fun _ => ?_) (fun _ => ?_)⟩⟩
          · -- with else
            have hbt : b = true := by
              cases b with
              | true => rfl
              | false => exact absurd (of_decide_eq_true hb) (by decide +kernel)
            have su_d := su_b.mono frd
            refine ⟨_, rfl, _, rfl, _, rfl, _, rfl, _, _, rfl, rfl, _, rfl, h1n, fa, an, hp, ns, hs, _, blk_args h1n, su_d, fun s2 t2 p2 ys2 left2 He fre ht2 e2 ty2 s2ok s2rok s2sz => ?_⟩
            refine ⟨t2, _, rfl, ht2, rfl, _, _, rfl, _, _, rfl, rfl, ?_⟩
            have su_e := su_d.mono fre
            refine ⟨len1_line, fun cq ncq => ?_⟩
            have sq1 : Same He (upd He cq (.tup [.str "else"])) := same_upd ncq
            have ecq : (upd He cq (.tup [.str "else"])) cq = some (.tup [.str "else"]) := upd_same
            generalize upd He cq (.tup [.str "else"]) = Hq at sq1 ecq
            refine ⟨len1_line, fun lq nlq => ?_⟩
            have sq2 : Same Hq (upd Hq lq (.lst [.ref cq])) := same_upd nlq
            have elq : (upd Hq lq (.lst [.ref cq])) lq = some (.lst [.ref cq]) := upd_same
            generalize upd Hq lq (.lst [.ref cq]) = Hr at sq2 elq
            have hl2 : ys2.length = s2.size := by rw [ty2.map_len, Sq.rows_len]
            refine ⟨_, rfl, lq, p2, _, _, rfl, rfl, elq, sq2 _ _ (sq1 _ _ e2), Nat.le_of_lt (small1000 (by rw [hl2]; show 1 + s2.size ≤ 1000; omega)), fun mp nmp => ?_⟩
            have sq3 : Same Hr (upd Hr mp (.lst ([.ref cq] ++ ys2))) := same_upd nmp
            have emG : (upd Hr mp (.lst ([.ref cq] ++ ys2))) mp = some (.lst ([.ref cq] ++ ys2)) := upd_same
            generalize upd Hr mp (.lst ([.ref cq] ++ ys2)) = G at sq3 emG
            have sq := sq1.trans (sq2.trans sq3)
            have frbG : Fr fa Hb G := frd.trans (fre.same sq)
            have suG := su_e.mono (Fr.of_same su_e.feed sq)
            have frG : Fr fa H G := frtb.trans frbG
            have eoG := frbG.lst su_b.feed eob
            have e1G := frbG.lst su_b.feed e1
            have tbG := frbG.tsm (K := K) su_b.feed
            have tyG := hyb.mono tbG
            have ty1G := ty1.mono tbG
            have tymG : TpAll K G ([.ref cq] ++ ys2) ((moRows (some s2)).map Rw.d) := .cons (.tup (.of (sq3 _ _ (sq2 _ _ ecq))) (.cons (.str _) .nil)) (ty2.mono sq.tsm)
            have hmo : b = false → (some s2).isNone = true := fun z => by rw [hbt] at z; cases z
            have mook : moOk (some s2) = true := s2ok
            have morok : ∀ r ∈ moRows (some s2), RowOk ns hs r := fun r hr => by
              rcases List.mem_cons.mp hr with rfl | hr
              · exact els_ok
              · exact s2rok r hr
            have hlm : ([V.ref cq] ++ ys2).length = moSize (some s2) := by rw [tymG.map_len, mo_len]
            have hmsz : moSize (some s2) ≤ 3 * stp (n - 1) + 1 := by show s2.size + 1 ≤ _; omega
            generalize (some s2 : Option Sq) = mo at tymG hmo mook morok hlm hmsz
            generalize [V.ref cq] ++ ys2 = zm at emG tymG hlm
            refine ⟨_, rfl, .inl ⟨rfl, _, .of eoG⟩, _, rfl, _, rfl, _, rfl, fa, an, ns, rfl, suG.feed, suG.names, suG.nok, fun e ve H7 fr7 te eok => ⟨len2_line, fun c7 nc7 => ?_⟩⟩
            have s8 : Same H7 (upd H7 c7 (.tup [.str (wdOf b), ve])) := same_upd nc7
            have ec8 : (upd H7 c7 (.tup [.str (wdOf b), ve])) c7 = some (.tup [.str (wdOf b), ve]) := upd_same
            generalize upd H7 c7 (.tup [.str (wdOf b), ve]) = H8 at s8 ec8
            refine ⟨len1_line, fun la nla => ?_⟩
            have s9 : Same H8 (upd H8 la (.lst [.ref c7])) := same_upd nla
            have ela : (upd H8 la (.lst [.ref c7])) la = some (.lst [.ref c7]) := upd_same
            generalize upd H8 la (.lst [.ref c7]) = H9 at s9 ela
            have s79 := s8.trans s9
            refine ⟨_, rfl, la, p1, _, _, rfl, rfl, ela, s79 _ _ (fr7.lst suG.feed e1G), small3 (by rw [hl1]; show 1 + s1.size ≤ 100; omega), fun l1 nl1 => ?_⟩
            have s10 : Same H9 (upd H9 l1 (.lst ([.ref c7] ++ ys1))) := same_upd nl1
            have el1 : (upd H9 l1 (.lst ([.ref c7] ++ ys1))) l1 = some (.lst ([.ref c7] ++ ys1)) := upd_same
            generalize upd H9 l1 (.lst ([.ref c7] ++ ys1)) = H10 at s10 el1
            have s710 := s79.trans s10
            refine ⟨_, rfl, l1, mp, _, _, rfl, rfl, el1, s710 _ _ (fr7.lst suG.feed emG), Nat.le_of_lt (small1000 (by rw [List.length_append, hl1, hlm]; show 1 + s1.size + (moSize mo) ≤ 1000; omega)), fun l2 nl2 => ?_⟩
            have s11 : Same H10 (upd H10 l2 (.lst (([.ref c7] ++ ys1) ++ zm))) := same_upd nl2
            have el2 : (upd H10 l2 (.lst (([.ref c7] ++ ys1) ++ zm))) l2 = some (.lst (([.ref c7] ++ ys1) ++ zm)) := upd_same
            generalize upd H10 l2 (.lst (([.ref c7] ++ ys1) ++ zm)) = H11 at s11 el2
            refine ⟨len1_line, fun c12 nc12 => ?_⟩
            have s12 : Same H11 (upd H11 c12 (.tup [.str "end"])) := same_upd nc12
            have ec12 : (upd H11 c12 (.tup [.str "end"])) c12 = some (.tup [.str "end"]) := upd_same
            generalize upd H11 c12 (.tup [.str "end"]) = H12 at s12 ec12
            refine ⟨len1_line, fun lb nlb => ?_⟩
            have s13 : Same H12 (upd H12 lb (.lst [.ref c12])) := same_upd nlb
            have elb : (upd H12 lb (.lst [.ref c12])) lb = some (.lst [.ref c12]) := upd_same
            generalize upd H12 lb (.lst [.ref c12]) = H13 at s13 elb
            refine ⟨l2, lb, _, _, rfl, rfl, s13 _ _ (s12 _ _ el2), elb, Nat.le_of_lt (small1000 (by rw [List.length_append, List.length_append, hl1, hlm]; show 1 + s1.size + (moSize mo) + 1 ≤ 1000; omega)), fun l3 nl3 => ?_⟩
            have s14 : Same H13 (upd H13 l3 (.lst ((([.ref c7] ++ ys1) ++ zm) ++ [.ref c12]))) := same_upd nl3
            have el3 : (upd H13 l3 (.lst ((([.ref c7] ++ ys1) ++ zm) ++ [.ref c12]))) l3 = some (.lst ((([.ref c7] ++ ys1) ++ zm) ++ [.ref c12])) := upd_same
            generalize upd H13 l3 (.lst ((([.ref c7] ++ ys1) ++ zm) ++ [.ref c12])) = H14 at s14 el3
            have s714 : Same H7 H14 := s710.trans (s11.trans (s12.trans (s13.trans s14)))
            have eo14 := s714 _ _ (fr7.lst suG.feed eoG)
            have fr14 : Fr fa G H14 := fr7.same s714
            refine ⟨o, l3, _, _, rfl, rfl, eo14, el3, Nat.le_of_lt (small1000 ?_), ?_⟩
            · rw [hyl, List.length_append, List.length_append, List.length_append, hl1, hlm]
              show s.size + (1 + s1.size + moSize mo + 1) ≤ 1000
              omega
            · have t15 := tsm_upd (K := K) (o' := .lst (ys ++ ((([.ref c7] ++ ys1) ++ zm) ++ [.ref c12]))) eo14 rfl
              have tG := fr14.tsm (K := K) suG.feed
              refine ⟨(frG.trans fr14).put su.feed no, ⟨s.app (mkSq b e s1 mo), _, upd_same, ?_, ?_, ?_, ?_⟩, _, _, _, _, _, _, _, _, rfl⟩
              · rw [Sq.app_rows, mkSq_rows hmo, List.map_append, List.map_cons, List.map_append, List.map_append]
                refine (tyG.mono (tG.trans t15)).append ?_
                have c7t : Tp K (upd H14 o (.lst (ys ++ ((([.ref c7] ++ ys1) ++ zm) ++ [.ref c12])))) (.ref c7) (rowOf b e).d := by
                  refine rowOf_tp (t15 _ _ (.of (s14 _ _ (s13 _ _ (s12 _ _ (s11 _ _ (s10 _ _ (s9 _ _ ec8)))))))) (te.mono (s714.tsm.trans t15))
                have c12t : Tp K (upd H14 o (.lst (ys ++ ((([.ref c7] ++ ys1) ++ zm) ++ [.ref c12])))) (.ref c12) (Rw.d .nd) := .tup (t15 _ _ (.of (s14 _ _ (s13 _ _ ec12)))) (.cons (.str _) .nil)
                exact blk_data c7t (ty1G.mono (tG.trans t15)) (tymG.mono (tG.trans t15)) c12t
              · rw [Sq.app_ok, sok, mkSq_ok b e s1ok mook]
                rfl
              · intro r hr
                rw [Sq.app_rows, mkSq_rows hmo] at hr
                rcases List.mem_append.mp hr with hr | hr
                · exact srok r hr
                · rcases List.mem_cons.mp hr with rfl | hr
                  · exact rowOf_ok eok
                  · rcases List.mem_append.mp hr with hr | hr
                    · exact s1rok r hr
                    · rcases List.mem_append.mp hr with hr | hr
                      · exact morok r hr
                      · rcases List.mem_singleton.mp hr with rfl
                        exact nd_ok
              · rw [Sq.app_size, mkSq_size hmo, Nat.add_mul, Nat.one_mul]
                omega
          · -- no else
            have su_d := su_b.mono frd
            have suG := su_d
            have frG : Fr fa H Hd := frtb.trans frd
            have eoG := frd.lst su_b.feed eob
            have e1G := frd.lst su_b.feed e1
            have emG := frd.lst su_b.feed emb
            have tbG := frd.tsm (K := K) su_b.feed
            have tyG := hyb.mono tbG
            have ty1G := ty1.mono tbG
            have tymG : TpAll K Hd [] ((moRows none).map Rw.d) := .nil
            have hmo : b = false → (none : Option Sq).isNone = true := fun _ => rfl
            have mook : moOk none = true := rfl
            have morok : ∀ r ∈ moRows none, RowOk ns hs r := fun r hr => by cases hr
            have hlm : ([] : List V).length = moSize none := rfl
            have hmsz : moSize none ≤ 3 * stp (n - 1) + 1 := Nat.zero_le _
            generalize (none : Option Sq) = mo at tymG hmo mook morok hlm hmsz
            generalize hzm : ([] : List V) = zm at emG tymG hlm
            generalize mp0 = mp at emG
            generalize Hd = G at suG frG eoG e1G emG tyG ty1G tymG
            refine ⟨_, rfl, .inl ⟨rfl, _, .of eoG⟩, _, rfl, _, rfl, _, rfl, fa, an, ns, rfl, suG.feed, suG.names, suG.nok, fun e ve H7 fr7 te eok => ⟨len2_line, fun c7 nc7 => ?_⟩⟩
            have s8 : Same H7 (upd H7 c7 (.tup [.str (wdOf b), ve])) := same_upd nc7
            have ec8 : (upd H7 c7 (.tup [.str (wdOf b), ve])) c7 = some (.tup [.str (wdOf b), ve]) := upd_same
            generalize upd H7 c7 (.tup [.str (wdOf b), ve]) = H8 at s8 ec8
            refine ⟨len1_line, fun la nla => ?_⟩
            have s9 : Same H8 (upd H8 la (.lst [.ref c7])) := same_upd nla
            have ela : (upd H8 la (.lst [.ref c7])) la = some (.lst [.ref c7]) := upd_same
            generalize upd H8 la (.lst [.ref c7]) = H9 at s9 ela
            have s79 := s8.trans s9
            refine ⟨_, rfl, la, p1, _, _, rfl, rfl, ela, s79 _ _ (fr7.lst suG.feed e1G), small3 (by rw [hl1]; show 1 + s1.size ≤ 100; omega), fun l1 nl1 => ?_⟩
            have s10 : Same H9 (upd H9 l1 (.lst ([.ref c7] ++ ys1))) := same_upd nl1
            have el1 : (upd H9 l1 (.lst ([.ref c7] ++ ys1))) l1 = some (.lst ([.ref c7] ++ ys1)) := upd_same
            generalize upd H9 l1 (.lst ([.ref c7] ++ ys1)) = H10 at s10 el1
            have s710 := s79.trans s10
            refine ⟨_, rfl, l1, mp, _, _, rfl, rfl, el1, s710 _ _ (fr7.lst suG.feed emG), Nat.le_of_lt (small1000 (by rw [List.length_append, hl1, hlm]; show 1 + s1.size + (moSize mo) ≤ 1000; omega)), fun l2 nl2 => ?_⟩
            have s11 : Same H10 (upd H10 l2 (.lst (([.ref c7] ++ ys1) ++ zm))) := same_upd nl2
            have el2 : (upd H10 l2 (.lst (([.ref c7] ++ ys1) ++ zm))) l2 = some (.lst (([.ref c7] ++ ys1) ++ zm)) := upd_same
            generalize upd H10 l2 (.lst (([.ref c7] ++ ys1) ++ zm)) = H11 at s11 el2
            refine ⟨len1_line, fun c12 nc12 => ?_⟩
            have s12 : Same H11 (upd H11 c12 (.tup [.str "end"])) := same_upd nc12
            have ec12 : (upd H11 c12 (.tup [.str "end"])) c12 = some (.tup [.str "end"]) := upd_same
            generalize upd H11 c12 (.tup [.str "end"]) = H12 at s12 ec12
            refine ⟨len1_line, fun lb nlb => ?_⟩
            have s13 : Same H12 (upd H12 lb (.lst [.ref c12])) := same_upd nlb
            have elb : (upd H12 lb (.lst [.ref c12])) lb = some (.lst [.ref c12]) := upd_same
            generalize upd H12 lb (.lst [.ref c12]) = H13 at s13 elb
            refine ⟨l2, lb, _, _, rfl, rfl, s13 _ _ (s12 _ _ el2), elb, Nat.le_of_lt (small1000 (by rw [List.length_append, List.length_append, hl1, hlm]; show 1 + s1.size + (moSize mo) + 1 ≤ 1000; omega)), fun l3 nl3 => ?_⟩
            have s14 : Same H13 (upd H13 l3 (.lst ((([.ref c7] ++ ys1) ++ zm) ++ [.ref c12]))) := same_upd nl3
            have el3 : (upd H13 l3 (.lst ((([.ref c7] ++ ys1) ++ zm) ++ [.ref c12]))) l3 = some (.lst ((([.ref c7] ++ ys1) ++ zm) ++ [.ref c12])) := upd_same
            generalize upd H13 l3 (.lst ((([.ref c7] ++ ys1) ++ zm) ++ [.ref c12])) = H14 at s14 el3
            have s714 : Same H7 H14 := s710.trans (s11.trans (s12.trans (s13.trans s14)))
            have eo14 := s714 _ _ (fr7.lst suG.feed eoG)
            have fr14 : Fr fa G H14 := fr7.same s714
            refine ⟨o, l3, _, _, rfl, rfl, eo14, el3, Nat.le_of_lt (small1000 ?_), ?_⟩
            · rw [hyl, List.length_append, List.length_append, List.length_append, hl1, hlm]
              show s.size + (1 + s1.size + moSize mo + 1) ≤ 1000
              omega
            · have t15 := tsm_upd (K := K) (o' := .lst (ys ++ ((([.ref c7] ++ ys1) ++ zm) ++ [.ref c12]))) eo14 rfl
              have tG := fr14.tsm (K := K) suG.feed
              refine ⟨(frG.trans fr14).put su.feed no, ⟨s.app (mkSq b e s1 mo), _, upd_same, ?_, ?_, ?_, ?_⟩, _, _, _, _, _, _, _, _, rfl⟩
              · rw [Sq.app_rows, mkSq_rows hmo, List.map_append, List.map_cons, List.map_append, List.map_append]
                refine (tyG.mono (tG.trans t15)).append ?_
                have c7t : Tp K (upd H14 o (.lst (ys ++ ((([.ref c7] ++ ys1) ++ zm) ++ [.ref c12])))) (.ref c7) (rowOf b e).d := by
                  refine rowOf_tp (t15 _ _ (.of (s14 _ _ (s13 _ _ (s12 _ _ (s11 _ _ (s10 _ _ (s9 _ _ ec8)))))))) (te.mono (s714.tsm.trans t15))
                have c12t : Tp K (upd H14 o (.lst (ys ++ ((([.ref c7] ++ ys1) ++ zm) ++ [.ref c12])))) (.ref c12) (Rw.d .nd) := .tup (t15 _ _ (.of (s14 _ _ (s13 _ _ ec12)))) (.cons (.str _) .nil)
                exact blk_data c7t (ty1G.mono (tG.trans t15)) (tymG.mono (tG.trans t15)) c12t
              · rw [Sq.app_ok, sok, mkSq_ok b e s1ok mook]
                rfl
              · intro r hr
                rw [Sq.app_rows, mkSq_rows hmo] at hr
                rcases List.mem_append.mp hr with hr | hr
                · exact srok r hr
                · rcases List.mem_cons.mp hr with rfl | hr
                  · exact rowOf_ok eok
                  · rcases List.mem_append.mp hr with hr | hr
                    · exact s1rok r hr
                    · rcases List.mem_append.mp hr with hr | hr
                      · exact morok r hr
                      · rcases List.mem_singleton.mp hr with rfl
                        exact nd_ok
              · rw [Sq.app_size, mkSq_size hmo, Nat.add_mul, Nat.one_mul]
                omega
        · -- while
          have suG := su_b
          have frG : Fr fa H Hb := frtb
          have eoG := eob
          have e1G := e1
          have emG := emb
          have tyG := hyb
          have ty1G := ty1
          have tymG : TpAll K Hb [] ((moRows none).map Rw.d) := .nil
          have hmo : b = false → (none : Option Sq).isNone = true := fun _ => rfl
          have mook : moOk none = true := rfl
          have morok : ∀ r ∈ moRows none, RowOk ns hs r := fun r hr => by cases hr
          have hlm : ([] : List V).length = moSize none := rfl
          have hmsz : moSize none ≤ 3 * stp (n - 1) + 1 := Nat.zero_le _
          generalize (none : Option Sq) = mo at tymG hmo mook morok hlm hmsz
          generalize hzm : ([] : List V) = zm at emG tymG hlm
          generalize mp0 = mp at emG
          generalize Hb = G at suG frG eoG e1G emG tyG ty1G tymG
          refine ⟨_, rfl, .inl ⟨rfl, _, .of eoG⟩, _, rfl, _, rfl, _, rfl, fa, an, ns, rfl, suG.feed, suG.names, suG.nok, fun e ve H7 fr7 te eok => ⟨len2_line, fun c7 nc7 => ?_⟩⟩
          have s8 : Same H7 (upd H7 c7 (.tup [.str (wdOf b), ve])) := same_upd nc7
          have ec8 : (upd H7 c7 (.tup [.str (wdOf b), ve])) c7 = some (.tup [.str (wdOf b), ve]) := upd_same
          generalize upd H7 c7 (.tup [.str (wdOf b), ve]) = H8 at s8 ec8
          refine ⟨len1_line, fun la nla => ?_⟩
          have s9 : Same H8 (upd H8 la (.lst [.ref c7])) := same_upd nla
          have ela : (upd H8 la (.lst [.ref c7])) la = some (.lst [.ref c7]) := upd_same
          generalize upd H8 la (.lst [.ref c7]) = H9 at s9 ela
          have s79 := s8.trans s9
          refine ⟨_, rfl, la, p1, _, _, rfl, rfl, ela, s79 _ _ (fr7.lst suG.feed e1G), small3 (by rw [hl1]; show 1 + s1.size ≤ 100; omega), fun l1 nl1 => ?_⟩
          have s10 : Same H9 (upd H9 l1 (.lst ([.ref c7] ++ ys1))) := same_upd nl1
          have el1 : (upd H9 l1 (.lst ([.ref c7] ++ ys1))) l1 = some (.lst ([.ref c7] ++ ys1)) := upd_same
          generalize upd H9 l1 (.lst ([.ref c7] ++ ys1)) = H10 at s10 el1
          have s710 := s79.trans s10
          refine ⟨_, rfl, l1, mp, _, _, rfl, rfl, el1, s710 _ _ (fr7.lst suG.feed emG), Nat.le_of_lt (small1000 (by rw [List.length_append, hl1, hlm]; show 1 + s1.size + (moSize mo) ≤ 1000; omega)), fun l2 nl2 => ?_⟩
          have s11 : Same H10 (upd H10 l2 (.lst (([.ref c7] ++ ys1) ++ zm))) := same_upd nl2
          have el2 : (upd H10 l2 (.lst (([.ref c7] ++ ys1) ++ zm))) l2 = some (.lst (([.ref c7] ++ ys1) ++ zm)) := upd_same
          generalize upd H10 l2 (.lst (([.ref c7] ++ ys1) ++ zm)) = H11 at s11 el2
          refine ⟨len1_line, fun c12 nc12 => ?_⟩
          have s12 : Same H11 (upd H11 c12 (.tup [.str "end"])) := same_upd nc12
          have ec12 : (upd H11 c12 (.tup [.str "end"])) c12 = some (.tup [.str "end"]) := upd_same
          generalize upd H11 c12 (.tup [.str "end"]) = H12 at s12 ec12
          refine ⟨len1_line, fun lb nlb => ?_⟩
          have s13 : Same H12 (upd H12 lb (.lst [.ref c12])) := same_upd nlb
          have elb : (upd H12 lb (.lst [.ref c12])) lb = some (.lst [.ref c12]) := upd_same
          generalize upd H12 lb (.lst [.ref c12]) = H13 at s13 elb
          refine ⟨l2, lb, _, _, rfl, rfl, s13 _ _ (s12 _ _ el2), elb, Nat.le_of_lt (small1000 (by rw [List.length_append, List.length_append, hl1, hlm]; show 1 + s1.size + (moSize mo) + 1 ≤ 1000; omega)), fun l3 nl3 => ?_⟩
          have s14 : Same H13 (upd H13 l3 (.lst ((([.ref c7] ++ ys1) ++ zm) ++ [.ref c12]))) := same_upd nl3
          have el3 : (upd H13 l3 (.lst ((([.ref c7] ++ ys1) ++ zm) ++ [.ref c12]))) l3 = some (.lst ((([.ref c7] ++ ys1) ++ zm) ++ [.ref c12])) := upd_same
          generalize upd H13 l3 (.lst ((([.ref c7] ++ ys1) ++ zm) ++ [.ref c12])) = H14 at s14 el3
          have s714 : Same H7 H14 := s710.trans (s11.trans (s12.trans (s13.trans s14)))
          have eo14 := s714 _ _ (fr7.lst suG.feed eoG)
          have fr14 : Fr fa G H14 := fr7.same s714
          refine ⟨o, l3, _, _, rfl, rfl, eo14, el3, Nat.le_of_lt (small1000 ?_), ?_⟩
          · rw [hyl, List.length_append, List.length_append, List.length_append, hl1, hlm]
            show s.size + (1 + s1.size + moSize mo + 1) ≤ 1000
            omega
          · have t15 := tsm_upd (K := K) (o' := .lst (ys ++ ((([.ref c7] ++ ys1) ++ zm) ++ [.ref c12]))) eo14 rfl
            have tG := fr14.tsm (K := K) suG.feed
            refine ⟨(frG.trans fr14).put su.feed no, ⟨s.app (mkSq b e s1 mo), _, upd_same, ?_, ?_, ?_, ?_⟩, _, _, _, _, _, _, _, _, rfl⟩
            · rw [Sq.app_rows, mkSq_rows hmo, List.map_append, List.map_cons, List.map_append, List.map_append]
              refine (tyG.mono (tG.trans t15)).append ?_
              have c7t : Tp K (upd H14 o (.lst (ys ++ ((([.ref c7] ++ ys1) ++ zm) ++ [.ref c12])))) (.ref c7) (rowOf b e).d := by
                refine rowOf_tp (t15 _ _ (.of (s14 _ _ (s13 _ _ (s12 _ _ (s11 _ _ (s10 _ _ (s9 _ _ ec8)))))))) (te.mono (s714.tsm.trans t15))
              have c12t : Tp K (upd H14 o (.lst (ys ++ ((([.ref c7] ++ ys1) ++ zm) ++ [.ref c12])))) (.ref c12) (Rw.d .nd) := .tup (t15 _ _ (.of (s14 _ _ (s13 _ _ ec12)))) (.cons (.str _) .nil)
              exact blk_data c7t (ty1G.mono (tG.trans t15)) (tymG.mono (tG.trans t15)) c12t
            · rw [Sq.app_ok, sok, mkSq_ok b e s1ok mook]
              rfl
            · intro r hr
              rw [Sq.app_rows, mkSq_rows hmo] at hr
              rcases List.mem_append.mp hr with hr | hr
              · exact srok r hr
              · rcases List.mem_cons.mp hr with rfl | hr
                · exact rowOf_ok eok
                · rcases List.mem_append.mp hr with hr | hr
                  · exact s1rok r hr
                  · rcases List.mem_append.mp hr with hr | hr
                    · exact morok r hr
                    · rcases List.mem_singleton.mp hr with rfl
                      exact nd_ok
            · rw [Sq.app_size, mkSq_size hmo, Nat.add_mul, Nat.one_mul]
              omega
    · obtain ⟨frt, ⟨s, ys, eo, hy, sok, srok, ssz⟩, left, y6, y7, y8, y9, y10, y11, y12, rfl⟩ := pp
      refine ⟨_, rfl, _, rfl, len2_line, fun t nt => ?_⟩
      have s2 : Same H2 (upd H2 t (.tup [.ref o, .int left])) := same_upd nt
      refine q s t o ys left _ (frt.same s2) (.of upd_same) (s2 _ _ eo) (hy.mono s2.tsm) sok srok (Nat.le_trans ssz (Nat.mul_le_mul_right _ (by omega)))
theorem h__law_block (D : Dfs w K mg) : ∀ n, n ≤ 2 → Has P w K mg base (n + 7) "_law_block" (spBlk K n) := by
  intro n
  induction n using Nat.strongRecOn with
  | ind n ih => exact fun hn => h_blk_step D n hn fun m hm => ih m hm (by omega)
end
end B9

/-! Programs that are drawn. -/
namespace B9
open PySem PySem.Spec PyProof.Rows L2

def Fnc.hd (f : Fnc) : Hd := ⟨f.nm, f.lo, f.hi, f.vars, f.many⟩
/-- the function's rows are blocks that fit -/
def FnBlk (hs : List Hd) (f : Fnc) : Prop := ∃ s : Sq, f.rows = s.rows ∧ s.ok = true ∧ s.size ≤ 171 ∧ ∀ r ∈ s.rows, RowOk f.names hs r
theorem cnt_hd (fns : List Fnc) (g : Str) : (fns.find? fun f => decide (f.nm = g)).map (·.many) = hcnt (fns.map Fnc.hd) g := by
  unfold hcnt
  rw [List.find?_map, Option.map_map]
  rfl
theorem good_of {p : Pg} {hs : List Hd} (hk : HdsOk hs) (e : p.fns.map Fnc.hd = hs) (hb : ∀ f ∈ p.fns, FnBlk hs f) (hf : p.first ∈ hs.map (·.nm)) (hm : 1 ≤ p.most) : Good p := by
  have hl := hk.len
  have hlen : p.fns.length = hs.length := by rw [← e, List.length_map]
  have hd : ∀ f ∈ p.fns, HdOk f.hd := fun f h => hk.ok _ (by rw [← e]; exact List.mem_map.mpr ⟨f, h, rfl⟩)
  have hnm : p.fns.map (·.nm) = hs.map (·.nm) := by rw [← e, List.map_map]; rfl
  obtain ⟨_, _, mok, masc⟩ := hmenus_ok _ hk.menu
  refine ⟨⟨fun z => ?_, by omega, fun f h => ?_, ?_, mok _ hf, by rw [hnm]; exact hf, hm, fun f h r hr => ?_, fun f h => ?_, ?_⟩, fun f h => ?_⟩
  · rw [z] at hlen
    simp at hlen
    omega
  · have h1 := hd f h
    obtain ⟨s, er, sok, ssz, srok⟩ := hb f h
    refine ⟨h1.nm, h1.rng, h1.vars.ok, h1.vars.nd, h1.many, h1.vars.len, fun r hr => ?_, ?_⟩
    · rw [er] at hr
      exact ⟨(srok r hr).ok, (srok r hr).len⟩
    · rw [er, Sq.rows_len]
      omega
  · rw [← hnm, List.pairwise_map] at masc
    exact masc
  · obtain ⟨s, er, sok, ssz, srok⟩ := hb f h
    rw [er] at hr
    have h2 := (srok r hr).fit
    have ec : p.cnt = hcnt hs := by
      funext g
      rw [← e]
      exact cnt_hd _ _
    rw [ec]
    exact h2
  · obtain ⟨s, er, sok, ssz, srok⟩ := hb f h
    rw [er]
    exact Sq.rowsOk sok (by omega)
  · have h1 := flatMap_len (l := p.fns) (f := fun f => f.rows) (n := 171) fun f h => by
      obtain ⟨s, er, sok, ssz, srok⟩ := hb f h
      rw [er, Sq.rows_len]
      exact ssz
    unfold Pg.rows
    omega
  · obtain ⟨s, er, sok, ssz, srok⟩ := hb f h
    rw [er]
    exact ⟨_, Sq.jok sok (by omega)⟩
theorem fnc_split (f : Fnc) : f.d = .tuple ([.str f.nm, .int f.lo, .int f.hi, .tuple (f.vars.map Vr.d), .int f.many] ++ [.tuple (f.rows.map Rw.d)]) := rfl
section
variable {P : Program} {w : World} {K : PySem.W.Frag} {mg : Str → Option Value} {base : Heap}
def spProg (K : PySem.W.Frag) : Sp := fun vs H Q _ => ∃ (fa : Addr × Addr), vs = [.ref fa.1] ∧ FeedAt H fa ∧ ∀ p v H', Fr fa H H' → Tp K H' v (Pg.d p) → Good p → Q v H'
theorem h__law_program (D : Dfs w K mg) : Has P w K mg base 10 "_law_program" (spProg K) := by
  refine D.f__law_program.has sc__law_program (fun vs H Q E h => ?_) (fun f cdv A outer s H vs Q E hr h => ?_)
  · obtain ⟨fa, rfl, _⟩ := h
    rfl
  · obtain ⟨fa, rfl, hf, q⟩ := h
    have B2 : Has P w K mg base 9 "_law_block" (spBlk K 2) := h__law_block D 2 (by decide)
    refine ⟨_, (pss_cons (ps_par (i := 1) (j := 2) (by rfl) sc__law_program.nd rfl rfl (by decide) rfl rfl (pa_cons (pc (h__law_heads D) hr (pa_cons (pv 0) pa_nil)) (pa_cons (pe_lst pa_nil) pa_nil)) (by rfl))
      (pss_cons (ps_for PassesOwn.never rfl (pi_list (pv 1)) (pg_name (i := 3) sc__law_program.nd rfl (.inl rfl)) (pss_cons (ps_set (i := 4) sc__law_program.nd rfl (.inl rfl) (pe_callTy call_tuple_of (by rfl) D.b_tuple (by decide +kernel) (pa_cons (pe_lc (own := [("_law_variable", 5)]) (te := tOp (rIxT K) (tVar 5) (tC (.int 0))) (by rfl) sc__law_program.nd (pi_tup (pe_ix ix_tup (pv 3) pe_int (fun _ _ => rfl))) (blkOk_by (own := [("_law_variable", 5)]) (N := N__law_program) (sc := defScope s__law_program) (by decide +kernel)) (fun _ _ _ _ _ => (pg_name (i := 5) sc__law_program.nd rfl (Or.inl rfl))) (fun _ _ _ _ _ => pts_nil) (fun _ _ _ _ _ => (pe_ix ix_tup (pv 5) pe_int (fun _ _ => rfl)))) pa_nil)))
      (pss_one (ps_expr (pe_bm PySem.F.plainAttrs_list PySem.F.slot_list_append PySem.F.type_list_append mt_append (pv 2) (pa_cons (pe_op op_catA (pv 3) (pe_tup (pa_cons (pe_callTy call_tuple_of (by rfl) D.b_tuple (by decide +kernel) (pa_cons (pe_ix ix_tup (pc B2 hr (pa_cons (pv 0) (pa_cons (pv 4) (pa_cons (pv 1) (pa_cons pe_int (pa_cons pe_int pa_nil)))))) pe_int (fun _ _ => rfl)) pa_nil)) pa_nil))) pa_nil))))))
      (pss_one (ps_ret (pe_tup (pa_cons (pe_callTy call_tuple_of (by rfl) D.b_tuple (by decide +kernel) (pa_cons (pv 2) pa_nil)) (pa_cons (pe_ix ix_tup (pe_ix ix_list (pv 1) (pc (h__law_draw D) hr (pa_cons (pv 0) (pa_cons (pe_callB call_len (by rfl) D.b_len (by decide +kernel) (pa_cons (pv 1) pa_nil)) pa_nil))) (fun _ _ => rfl)) pe_int (fun _ _ => rfl)) (pa_cons (pe_op op_add pe_int (pc (h__law_draw D) hr (pa_cons (pv 0) (pa_cons pe_int pa_nil)))) pa_nil)))))))), ?_⟩
    refine ⟨_, rfl, fa, rfl, hf, fun hs hp yh H1 fr1 eh1 hh1 hok => ?_⟩
    refine ⟨Nat.zero_le _, fun o no => ⟨_, _, rfl, ?_⟩⟩
    have s2 : Same H1 (upd H1 o (.lst [])) := same_upd no
    have eo2 : (upd H1 o (.lst [])) o = some (.lst []) := upd_same
    generalize upd H1 o (.lst []) = H2 at s2 eo2
    have fr2 := fr1.same s2
    have eh2 := s2 _ _ eh1
    have noH : H o = none := fr1.gone no
    have hyl : yh.length = hs.length := hh1.map_len
    obtain ⟨hl2, hl3⟩ := hok.len
    refine ⟨_, rfl, hp, rfl, ⟨_, .of eh2⟩, ?_⟩
    have hpo : hp ≠ o := ne_of_none eh1 no
    refine for_list (K := K) (a := hp) (xs := yh) (fun i σ H' => Fr fa H H' ∧ H' hp = some (.lst yh) ∧ TpAll K H' yh (hs.map Hd.d) ∧ (∃ (fns : List Fnc) (ys : List V), H' o = some (.lst ys) ∧ TpAll K H' ys (fns.map Fnc.d) ∧ fns.map Fnc.hd = hs.take i ∧ ∀ f ∈ fns, FnBlk hs f) ∧ ∃ (y3 y4 : Option V), σ = [some (.ref fa.1), some (.ref hp), some (.ref o), y3, y4, none])
      ⟨fr2, eh2, hh1.mono s2.tsm, ⟨[], [], eo2, .nil, rfl, fun r hr => by cases hr⟩, none, none, rfl⟩ (fun i σ H' _ pp => .of pp.2.1) (fun i x σ H3 hx pp => ?_) (fun σ H3 pp => ?_)
    · obtain ⟨fr3, eh3, hh3, ⟨fns, ys, eo3, hy, hfh, hfb⟩, y3, y4, rfl⟩ := pp
      obtain ⟨hd, hdi, hdm, th⟩ := hh3.map_get hx
      have hdok := hok.ok hd hdm
      obtain ⟨ah, v3, rfl, hSh, t3⟩ := Hd.inv th
      obtain ⟨a3, x3, rfl, hS3, hA3⟩ := t3.tup_inv
      have hl3v : x3.length = hd.vars.length := hA3.map_len
      have hv3 := hdok.vars.len
      -- names
      refine ⟨_, rfl, ah, _, 3, _, rfl, rfl, hSh, at3, a3, rfl, ⟨_, hS3⟩, fun Dl nL => ?_⟩
      refine walkT (K := K) (a := a3) (xs := x3) (PvX H3 Dl ((hd.vars.map (·.x)).map V.str)) (PvX.zero nL) (fun i H' _ p => p.1.tsm _ _ hS3) (fun i y H4 hy4 pp => ?_) (fun H4 pp => ?_)
      · obtain ⟨vr, hvi, hvm, tvr⟩ := hA3.map_get hy4
        obtain ⟨av, rfl, hSv⟩ := Vr.inv tvr
        have hi : i < hd.vars.length := (List.getElem?_eq_some_iff.mp hvi).1
        refine ⟨rfl, _, rfl, av, _, 0, _, rfl, rfl, pp.1.tsm _ _ hSv, at0, ?_⟩
        exact PvX.step nL pp (by omega) (Same.refl _) (by rw [List.getElem?_map, List.getElem?_map, hvi]; rfl)
      have eN : H4 Dl = some (.lst ((hd.vars.map (·.x)).map V.str)) := by
        refine PvX.done (S := H3) ?_
        have el : ((hd.vars.map (·.x)).map V.str).length = x3.length := by rw [hl3v, List.length_map, List.length_map]
        rw [el]
        exact pp
      refine ⟨Dl, _, rfl, .inl ⟨.of eN, fun an nan => ?_⟩⟩
      have s5 : Same H4 (upd H4 an (.tup ((hd.vars.map (·.x)).map V.str))) := same_upd nan
      have ean : (upd H4 an (.tup ((hd.vars.map (·.x)).map V.str))) an = some (.tup ((hd.vars.map (·.x)).map V.str)) := upd_same
      generalize upd H4 an (.tup ((hd.vars.map (·.x)).map V.str)) = H5 at s5 ean
      have s35 := pp.1.trans s5
      have su : Sur K H5 fa an hp (hd.vars.map (·.x)) hs := by
        refine ⟨fr3.2.same s35, .of ean, ⟨fun n hn => ?_, by rw [List.length_map]; omega⟩, by rw [List.length_map]; exact hdok.vars.pos, ⟨yh, s35 _ _ eh3, hh3.mono s35.tsm⟩, hok⟩
        obtain ⟨v, hv, rfl⟩ := List.mem_map.mp hn
        exact (hdok.vars.ok v hv).1
      -- found.append(own + (tuple(block(..)[0]),))
      refine ⟨_, rfl, .inl ⟨rfl, _, .of (s35 _ _ eo3)⟩, _, rfl, _, rfl, _, rfl, _, rfl, fa, an, hp, _, hs, 5, rfl, su, fun sq t pb yb left' H6 fr6 ht epb tyb sok srok ssz => ?_⟩
      refine ⟨t, _, 0, _, rfl, rfl, ht, at0, pb, _, rfl, .inl ⟨.of epb, fun tr ntr => ?_⟩⟩
      have s7 : Same H6 (upd H6 tr (.tup yb)) := same_upd ntr
      have etr : (upd H6 tr (.tup yb)) tr = some (.tup yb) := upd_same
      generalize upd H6 tr (.tup yb) = H7 at s7 etr
      refine ⟨len1_line, fun t1 nt1 => ?_⟩
      have s8 : Same H7 (upd H7 t1 (.tup [.ref tr])) := same_upd nt1
      have et1 : (upd H7 t1 (.tup [.ref tr])) t1 = some (.tup [.ref tr]) := upd_same
      generalize upd H7 t1 (.tup [.ref tr]) = H8 at s8 et1
      have fr38 : Fr fa H3 H8 := (Fr.of_same fr3.2 s35).trans (fr6.same (s7.trans s8))
      have t38 := fr38.tsm (K := K) fr3.2
      refine ⟨ah, t1, _, _, rfl, rfl, t38 _ _ hSh, .of et1, small3 (by show 5 + 1 ≤ 100; decide), (fun z => by cases z), (fun _ z => by cases z), fun _ _ tf ntf => ?_⟩
      have s9 : Same H8 (upd H8 tf (.tup ([.str hd.nm, .int hd.lo, .int hd.hi, .ref a3, .int hd.many] ++ [.ref tr]))) := same_upd ntf
      have etf : (upd H8 tf (.tup ([.str hd.nm, .int hd.lo, .int hd.hi, .ref a3, .int hd.many] ++ [.ref tr]))) tf = some (.tup ([.str hd.nm, .int hd.lo, .int hd.hi, .ref a3, .int hd.many] ++ [.ref tr])) := upd_same
      have fr39 := fr38.same s9
      have eo9 := fr39.lst fr3.2 eo3
      have hfl : fns.length ≤ 3 := by
        have h1 := congrArg List.length hfh
        rw [List.length_map, List.length_take] at h1
        omega
      refine ⟨o, _, _, rfl, rfl, eo9, small1000 (by rw [hy.map_len]; omega), ?_⟩
      have t10 := tsm_upd (K := K) (o' := .lst (ys ++ [V.ref tf])) eo9 rfl
      have t310 := (fr39.tsm (K := K) fr3.2).trans t10
      have ntfo : hp ≠ o := hpo
      refine ⟨(fr3.trans fr39).put hf noH, ?_, hh3.mono t310, ⟨fns ++ [⟨hd.nm, hd.lo, hd.hi, hd.vars, hd.many, sq.rows⟩], _, upd_same, ?_, ?_, fun f hf => ?_⟩, _, _, rfl⟩
      · rw [upd_ne hpo]
        exact fr39.lst fr3.2 eh3
      · rw [List.map_append]
        refine (hy.mono t310).append (.cons ?_ .nil)
        refine .tup (t10 _ _ (.of etf)) (.cons (.str _) (.cons (.int _) (.cons (.int _) (.cons (.tup (t310 _ _ hS3) (hA3.mono t310)) (.cons (.int _) (.cons ?_ .nil))))))
        have t610 := (s7.trans (s8.trans s9)).tsm.trans t10
        exact .tup (t10 _ _ (.of (s9 _ _ (s8 _ _ etr)))) (tyb.mono t610)
      · rw [List.map_append, hfh, List.take_add_one, hdi]
        rfl
      · rcases List.mem_append.mp hf with hf | hf
        · exact hfb f hf
        · rcases List.mem_singleton.mp hf with rfl
          exact ⟨sq, rfl, sok, Nat.le_trans ssz (by decide), srok⟩
    · obtain ⟨fr3, eh3, hh3, ⟨fns, ys, eo3, hy, hfh, hfb⟩, y3, y4, rfl⟩ := pp
      rw [hyl, List.take_length] at hfh
      refine ⟨_, rfl, o, _, rfl, .inl ⟨.of eo3, fun tf ntf => ?_⟩⟩
      have s4 : Same H3 (upd H3 tf (.tup ys)) := same_upd ntf
      have etf : (upd H3 tf (.tup ys)) tf = some (.tup ys) := upd_same
      generalize upd H3 tf (.tup ys) = H4 at s4 etf
      have fr4 := fr3.same s4
      refine ⟨_, rfl, _, rfl, _, rfl, _, hs.length, rfl, .inl ⟨_, .of (s4 _ _ eh3), hyl.symm⟩, fa, _, rfl, fr4.2, by omega, by omega, fun k H5 hk fr5 => ?_⟩
      have hk' : k < hs.length := by omega
      have hh5 := hh3.mono (s4.tsm.trans (fr5.tsm fr4.2))
      obtain ⟨vo, hvo, to'⟩ := hh5.at (i := k) (d := hs[k].d) (by rw [List.getElem?_map, List.getElem?_eq_getElem hk']; rfl)
      obtain ⟨ao, v3, rfl, hSo, _⟩ := Hd.inv to'
      refine ⟨hp, _, _, _, rfl, rfl, .of (fr5.lst fr4.2 (s4 _ _ eh3)), atI_nat hvo, ao, _, 0, _, rfl, rfl, hSo, at0, ?_⟩
      refine ⟨_, rfl, fa, 60, rfl, fr5.2, by decide, by decide, fun m H6 hm fr6 => ⟨_, _, rfl, rfl, len3_line, fun t nt => ?_⟩⟩
      have s7 : Same H6 (upd H6 t (.tup [.ref tf, .str hs[k].nm, .int (1 + (m : Nat))])) := same_upd nt
      have fr47 := fr5.trans (fr6.same s7)
      have hx : hs[k].nm ∈ hs.map (·.nm) := List.mem_map.mpr ⟨_, List.getElem_mem hk', rfl⟩
      refine q ⟨fns, hs[k].nm, 1 + (m : Nat)⟩ _ _ (fr4.trans fr47) ?_ (good_of hok hfh hfb hx (by show (1 : Int) ≤ 1 + (m : Nat); omega))
      refine .tup (.of upd_same) (.cons (.tup (fr47.tsm (K := K) fr4.2 _ _ (.of etf)) (hy.mono (s4.tsm.trans (fr47.tsm fr4.2)))) (.cons (.str _) (.cons (.int _) .nil)))
end
end B9

/-! Data that is written in the text. -/
namespace B9
open PySem PySem.Spec PyProof.Rows L2

/-- what must stand ahead, and stays -/
structure Pr where
  p : L2.St → Hp → Prop
  m : ∀ σ H H', Same H H' → p σ H → p σ H'
def pr0 : Pr := ⟨fun _ _ => True, fun _ _ _ _ _ => True.intro⟩
def prV (K : PySem.W.Frag) (i : Nat) (d : PyData) : Pr := ⟨fun σ H => ∃ v, σ[i]? = some (some v) ∧ Tp K H v d, fun σ H H' s ⟨v, e, t⟩ => ⟨v, e, t.mono s.tsm⟩⟩
def prA (a b : Pr) : Pr := ⟨fun σ H => a.p σ H ∧ b.p σ H, fun σ H H' s ⟨x, y⟩ => ⟨a.m σ H H' s x, b.m σ H H' s y⟩⟩
/-- an expression that gives this data, all that stood stays -/
def tD (K : PySem.W.Frag) (pr : Pr) (d : PyData) : TE := fun σ H Q => pr.p σ H ∧ ∀ v H', Same H H' → Tp K H' v d → Q v H'
def tDs (K : PySem.W.Frag) (pr : Pr) (ds : List PyData) : TA := fun σ H Q => pr.p σ H ∧ ∀ vs H', Same H H' → TpAll K H' vs ds → Q vs H'
section
variable {X : Cx} {e e1 e2 : Expr} {es : List Expr} {pr pr1 pr2 : Pr} {d : PyData} {ds ds1 ds2 : List PyData} {pos : Pos}
theorem pe_weak {te te' : TE} (h : PE X e te) (w : ∀ σ H Q, te' σ H Q → te σ H Q) : PE X e te' := ⟨fun pins s σ H Q I q => h.run pins s σ H Q I (w σ H Q q)⟩
theorem pa_weak {te te' : TA} (h : PA X es te) (w : ∀ σ H Q, te' σ H Q → te σ H Q) : PA X es te' := ⟨fun pos pins s σ H Q I q => h.run pos pins s σ H Q I (w σ H Q q)⟩
theorem pd_str {x : Str} {j} : PE X (.Constant (.str x) j pos) (tD X.K pr0 (.str x)) := pe_weak pe_str fun σ H Q q => q.2 _ H (Same.refl H) (.str x)
theorem pd_int {i : Int} {j} : PE X (.Constant (.int i) j pos) (tD X.K pr0 (.int i)) := pe_weak pe_int fun σ H Q q => q.2 _ H (Same.refl H) (.int i)
theorem pd_neg {i : Int} {j p2} : PE X (.UnaryOp .USub (.Constant (.int i) j p2) pos) (tD X.K pr0 (.int (-i))) := pe_weak (pe_un un_neg pe_int) fun σ H Q q => ⟨i, rfl, q.2 _ H (Same.refl H) (.int (-i))⟩
theorem pd_var (i : Nat) {x : Str} (hN : X.N[i]? = some x := by rfl) (hv : Vis X.env.scope x := by first | exact Or.inl rfl | exact Or.inr (Or.inl rfl) | exact Or.inr (Or.inr rfl)) (hd : (x == ("__debug__" : Str)) = false := by decide) (hcd : (x == ("__classdict__" : Str)) = false := by decide) :
    PE X (.Name x pos) (tD X.K (prV X.K i d) d) := pe_weak (pe_var hN hv hd hcd) fun σ H Q q => by
  obtain ⟨⟨v, e, t⟩, q⟩ := q
  exact ⟨v, e, q v H (Same.refl H) t⟩
theorem pds_nil : PA X [] (tDs X.K pr0 []) := pa_weak pa_nil fun σ H Q q => q.2 [] H (Same.refl H) .nil
theorem pds_cons (h1 : PE X e (tD X.K pr1 d)) (h2 : PA X es (tDs X.K pr2 ds)) (hs : starEach (e :: es) X.env = (false, eval e X.env) :: starEach es X.env := by rfl) : PA X (e :: es) (tDs X.K (prA pr1 pr2) (d :: ds)) :=
  pa_weak (pa_cons h1 h2 hs) fun σ H Q q => ⟨q.1.1, fun v H1 s1 t1 => ⟨pr2.m _ _ _ s1 q.1.2, fun vs H2 s2 t2 => q.2 (v :: vs) H2 (s1.trans s2) (.cons (t1.mono s2.tsm) t2)⟩⟩
theorem pd_tup {k} (h : PA X es (tDs X.K pr ds)) (hl : ds.length ≤ 100 := by decide) : PE X (.Tuple es k pos) (tD X.K pr (.tuple ds)) :=
  pe_weak (pe_tup h) fun σ H Q q => ⟨q.1, fun vs H1 s1 t1 => ⟨by rw [t1.length]; exact small3 hl, fun p np => q.2 _ _ (s1.trans (same_upd np)) (.tup (.of upd_same) (t1.mono (same_upd np).tsm))⟩⟩
theorem pd_cat (h1 : PE X e1 (tD X.K pr1 (.tuple ds1))) (h2 : PE X e2 (tD X.K pr2 (.tuple ds2))) (hl : ds1.length + ds2.length ≤ 100 := by decide) : PE X (.BinOp e1 .Add e2 pos) (tD X.K (prA pr1 pr2) (.tuple (ds1 ++ ds2))) :=
  pe_weak (pe_op op_catA h1 h2) fun σ H Q q => ⟨q.1.1, fun v H1 s1 t1 => ⟨pr2.m _ _ _ s1 q.1.2, fun u H2 s2 t2 => by
    have t1' := t1.mono s2.tsm
    obtain ⟨a, xs, rfl, hS, hA⟩ := t1'.tup_inv
    obtain ⟨b, ys, rfl, hS2, hB⟩ := t2.tup_inv
    refine ⟨a, b, xs, ys, rfl, rfl, hS, hS2, by rw [hA.length, hB.length]; exact small3 hl, fun z => ?_, fun _ z => ?_, fun _ _ p np => ?_⟩
    · subst z
      refine q.2 _ _ (s1.trans s2) (.tup hS2 ?_)
      exact hA.append hB
    · subst z
      refine q.2 _ _ (s1.trans s2) (.tup hS ?_)
      have := hA.append hB
      rwa [List.append_nil] at this
    · exact q.2 _ _ (s1.trans (s2.trans (same_upd np))) (.tup (.of upd_same) ((hA.append hB).mono (same_upd np).tsm))⟩⟩
end

/-! ### the samples, as programs -/
def Q11 : Sq := .plain (.ret (.tri (.bi "=" (.nm "x") (.int 1)) (.int 0) (.nm "x"))) .nil
def Q12 : Sq := .plain (.call "a" "f" [.nm "a"]) (.plain (.call "b" "f" [.nm "b"]) (.plain (.ret (.bi "+" (.nm "a") (.nm "b"))) .nil))
def F11 : Fnc := ⟨"f", 0, 2, [⟨"x", 0, 2⟩], 1, Q11.rows⟩
def F12 : Fnc := ⟨"main", 0, 4, [⟨"a", 0, 2⟩, ⟨"b", 0, 2⟩], 2, Q12.rows⟩
def S1 : Pg := ⟨[F11, F12], "main", 9⟩
def Q21 : Sq := .whl (.bi "<" (.nm "s") (.nm "n")) (.ifel (.bi "=" (.nm "s") (.int 2)) (.plain (.set "s" (.bi "+" (.nm "s") (.nm "n"))) .nil) (.plain (.set "s" (.bi "+" (.nm "s") (.int 1))) .nil) .nil) (.plain (.ret (.nm "s")) .nil)
def S2 : Pg := ⟨[⟨"go", 0, 3, [⟨"n", 0, 3⟩, ⟨"s", 0, 3⟩], 1, Q21.rows⟩], "go", 60⟩
def dIf (k : Int) (s : Sq) : Sq := .ife (.bi "<" (.nm "x") (.int k)) (.whl (.nm "x") s .nil) .nil
def Q31 : Sq := dIf 0 (dIf 2 (dIf 4 (.plain (.set "x" (.int 0)) .nil)))
def S3 : Pg := ⟨[⟨"f", 0, 1, [⟨"x", -1, 1⟩], 0, Q31.rows⟩], "f", 5⟩
def Q41 : Sq := .ifel (.nm "else") .nil (.whl (.int 0) .nil .nil) (.plain (.ret (.bi "least" (.nm "least") (.nm "else"))) .nil)
def Q42 : Sq := .plain (.set "set" (.nm "end")) (.plain (.call "end" "if" [.nm "set", .int 1]) (.plain (.call "set" "while" []) (.plain (.ret (.nm "set")) .nil)))
def F41 : Fnc := ⟨"if", 0, 2, [⟨"else", 0, 1⟩, ⟨"least", 0, 2⟩], 2, Q41.rows⟩
def F42 : Fnc := ⟨"set", -1, 1, [⟨"set", -1, 1⟩, ⟨"end", 0, 0⟩], 1, Q42.rows⟩
def S4 : Pg := ⟨[F41, F42, ⟨"while", 5, 5, [], 0, []⟩], "set", 1⟩
def Q52 : Sq := .plain (.ret (.int 0)) .nil
def S5 : Pg := ⟨[⟨"f", -3, -3, [], 0, []⟩, ⟨"g", 0, 0, [], 0, Q52.rows⟩], "f", 1⟩
def Q61 : Sq := .ife (.nm "k") (.plain (.call "k" "down" [.bi "-" (.nm "k") (.int 1)]) .nil) (.plain (.ret (.bi "+" (.nm "k") (.int 1))) .nil)
def S6 : Pg := ⟨[⟨"down", 0, 3, [⟨"k", 0, 3⟩], 1, Q61.rows⟩], "down", 30⟩
/-- what a program must be, by reckoning -/
def FnB (cnt : Str → Option Nat) (f : Fnc) (s : Sq) : Bool := okNm f.nm && decide (f.lo ≤ f.hi) && f.vars.all (fun v => okNm v.x && decide (v.lo ≤ v.hi)) && decide f.names.Nodup && decide (f.many ≤ f.vars.length) && decide (f.vars.length ≤ 3) &&
  decide (f.rows = s.rows) && s.ok && decide (s.size ≤ 100) && f.rows.all fun r => r.ok && decide (r.parts.length ≤ 3) && rowFits f.names cnt r
def PgB (p : Pg) (ss : List Sq) : Bool := !p.fns.isEmpty && decide (p.fns.length ≤ 3) && decide (p.fns.Pairwise fun f g => f.nm.cps.toList < g.nm.cps.toList) && okNm p.first && decide (p.first ∈ p.fns.map (·.nm)) && decide (1 ≤ p.most) &&
  decide (p.fns.length = ss.length) && (p.fns.zip ss).all fun x => FnB p.cnt x.1 x.2
theorem FnB.inv {cnt : Str → Option Nat} {f : Fnc} {s : Sq} (b : FnB cnt f s = true) : FnW f ∧ f.rows = s.rows ∧ s.ok = true ∧ s.size ≤ 100 ∧ ∀ r ∈ f.rows, rowFits f.names cnt r = true := by
  unfold FnB at b
  simp only [Bool.and_eq_true, decide_eq_true_eq, List.all_eq_true] at b
  obtain ⟨⟨⟨⟨⟨⟨⟨⟨⟨b1, b2⟩, b3⟩, b4⟩, b5⟩, b6⟩, b7⟩, b8⟩, b9⟩, b10⟩ := b
  have hl : f.rows.length ≤ 1000 := by
    rw [b7, Sq.rows_len]
    omega
  exact ⟨⟨b1, b2, b3, b4, b5, b6, fun r hr => (b10 r hr).1, hl⟩, b7, b8, b9, fun r hr => (b10 r hr).2⟩
theorem PgB.inv {p : Pg} {ss : List Sq} (h : PgB p ss = true) : p.fns ≠ [] ∧ p.fns.length ≤ 3 ∧ (p.fns.Pairwise fun f g => f.nm.cps.toList < g.nm.cps.toList) ∧ okNm p.first = true ∧ p.first ∈ p.fns.map (·.nm) ∧ 1 ≤ p.most ∧ p.fns.length = ss.length ∧ ∀ x ∈ p.fns.zip ss, FnB p.cnt x.1 x.2 = true := by
  unfold PgB at h
  rw [Bool.and_eq_true, Bool.and_eq_true, Bool.and_eq_true, Bool.and_eq_true, Bool.and_eq_true, Bool.and_eq_true, Bool.and_eq_true] at h
  obtain ⟨⟨⟨⟨⟨⟨⟨h1, h2⟩, h3⟩, h4⟩, h5⟩, h6⟩, h7⟩, h8⟩ := h
  refine ⟨fun z => ?_, of_decide_eq_true h2, of_decide_eq_true h3, h4, of_decide_eq_true h5, of_decide_eq_true h6, of_decide_eq_true h7, List.all_eq_true.mp h8⟩
  rw [z] at h1
  cases h1
theorem zip_at {fs : List Fnc} {ss : List Sq} (h : fs.length = ss.length) {f : Fnc} (hf : f ∈ fs) : ∃ s, (f, s) ∈ fs.zip ss := by
  obtain ⟨i, hi, e⟩ := List.getElem_of_mem hf
  have hi2 : i < ss.length := by omega
  refine ⟨ss[i], List.mem_of_getElem? (i := i) ?_⟩
  rw [List.getElem?_zip_eq_some]
  exact ⟨by rw [List.getElem?_eq_getElem hi, e], List.getElem?_eq_getElem hi2⟩
theorem good_by {p : Pg} {ss : List Sq} (h : PgB p ss = true) : Good p := by
  obtain ⟨h1, h2, h3, h4, h5, h6, h7, h8⟩ := PgB.inv h
  have hf : ∀ f ∈ p.fns, FnW f ∧ ∃ s : Sq, f.rows = s.rows ∧ s.ok = true ∧ s.size ≤ 100 ∧ ∀ r ∈ f.rows, rowFits f.names p.cnt r = true := fun f hf => by
    obtain ⟨s, hs⟩ := zip_at h7 hf
    obtain ⟨a, b⟩ := FnB.inv (h8 _ hs)
    exact ⟨a, s, b⟩
  have hfit : ∀ f ∈ p.fns, ∀ r ∈ f.rows, rowFits f.names p.cnt r = true := fun f h r hr => by
    obtain ⟨_, s, _, _, _, h9⟩ := hf f h
    exact h9 r hr
  have hblk : ∀ f ∈ p.fns, RowsOk f.rows := fun f h => by
    obtain ⟨_, s, e, ok, sz, _⟩ := hf f h
    rw [e]
    exact Sq.rowsOk ok (Nat.le_trans sz (by decide))
  have hjok : ∀ f ∈ p.fns, ∃ js, JOk f.rows js := fun f h => by
    obtain ⟨_, s, e, ok, sz, _⟩ := hf f h
    rw [e]
    exact ⟨_, Sq.jok ok (Nat.le_trans sz (by decide))⟩
  have hlen : p.rows.length ≤ 9000 := by
    have h9 : (p.fns.flatMap fun f => f.rows).length ≤ 1000 * p.fns.length := flatMap_len fun f h => (hf f h).1.rlen
    have h10 : p.rows.length ≤ 1000 * p.fns.length := h9
    omega
  exact ⟨⟨h1, h2, fun f h => (hf f h).1, h3, h4, h5, h6, hfit, hblk, hlen⟩, hjok⟩
theorem good1 : Good S1 := good_by (ss := [Q11, Q12]) (by decide +kernel)
theorem good2 : Good S2 := good_by (ss := [Q21]) (by decide +kernel)
theorem good3 : Good S3 := good_by (ss := [Q31]) (by decide +kernel)
theorem good4 : Good S4 := good_by (ss := [Q41, Q42, .nil]) (by decide +kernel)
theorem good5 : Good S5 := good_by (ss := [.nil, Q52]) (by decide +kernel)
theorem good6 : Good S6 := good_by (ss := [Q61]) (by decide +kernel)
end B9

/-! The samples. -/
namespace B9
open PySem PySem.Spec PyProof.Rows L2

theorem pd_rep {X : Cx} {e : Expr} {pr : Pr} {ds : List PyData} {k : Nat} {j} {pos p2 : Pos} (h : PE X e (tD X.K pr (.tuple ds))) (hk : 2 ≤ k := by decide) (hk2 : k ≤ 100 := by decide) (hl : 1 ≤ ds.length := by decide) (hl2 : ds.length ≤ 100 := by decide) :
    PE X (.BinOp e .Mult (.Constant (.int k) j p2) pos) (tD X.K pr (.tuple (List.replicate k ds).flatten)) :=
  pe_weak (pe_op op_repT h pe_int) fun σ H Q q => ⟨q.1, fun v H1 s1 t1 => by
    obtain ⟨a, xs, rfl, hS, hA⟩ := t1.tup_inv
    have hxl := hA.length
    have hne : xs ≠ [] := fun z => by
      rw [z] at hxl
      rw [← hxl] at hl
      cases hl
    refine ⟨a, k, xs, rfl, rfl, hS, hne, by omega, by omega, by omega, fun p np => ?_⟩
    refine q.2 _ _ (s1.trans (same_upd np)) (.tup (.of upd_same) ?_)
    rw [Int.toNat_natCast]
    have : ∀ n, TpAll X.K (upd H1 p (.tup (List.replicate k xs).flatten)) (List.replicate n xs).flatten (List.replicate n ds).flatten := fun n => by
      induction n with
      | zero => exact .nil
      | succ n ih =>
        rw [List.replicate_succ, List.replicate_succ, List.flatten_cons, List.flatten_cons]
        exact (hA.mono (same_upd np).tsm).append ih
    exact this k⟩
section
variable {P : Program} {w : World} {K : PySem.W.Frag} {mg : Str → Option Value} {base : Heap}
def spS (K : PySem.W.Frag) (p : Pg) : Sp := fun vs H Q _ => vs = [] ∧ ∀ v H', Same H H' → Tp K H' v p.d → Q v H'
theorem h__law_first_program (D : Dfs w K mg) : Has P w K mg base 1 "_law_first_program" (spS K S1) := by
  refine D.f__law_first_program.has sc__law_first_program (fun vs H Q E h => ?_) (fun f cdv A outer s H vs Q E hr h => ?_)
  · obtain ⟨rfl, _⟩ := h
    rfl
  · obtain ⟨rfl, q⟩ := h
    refine ⟨_, (pss_cons (ps_set (i := 0) sc__law_first_program.nd rfl (.inl rfl) (pd_tup (pds_cons pd_str (pds_cons pd_int (pds_cons pd_int (pds_cons (pd_tup (pds_cons (pd_tup (pds_cons pd_str (pds_cons pd_int (pds_cons pd_int pds_nil)))) pds_nil)) (pds_cons pd_int (pds_cons (pd_tup (pds_cons (pd_tup (pds_cons pd_str (pds_cons (pd_tup (pds_cons pd_str (pds_cons (pd_tup (pds_cons pd_str (pds_cons pd_str (pds_cons pd_int pds_nil)))) (pds_cons pd_int (pds_cons pd_str pds_nil))))) pds_nil))) pds_nil)) pds_nil))))))))
      (pss_cons (ps_set (i := 1) sc__law_first_program.nd rfl (.inl rfl) (pd_tup (pds_cons (pd_tup (pds_cons pd_str (pds_cons pd_str (pds_cons pd_str (pds_cons (pd_tup (pds_cons pd_str pds_nil)) pds_nil))))) (pds_cons (pd_tup (pds_cons pd_str (pds_cons pd_str (pds_cons pd_str (pds_cons (pd_tup (pds_cons pd_str pds_nil)) pds_nil))))) (pds_cons (pd_tup (pds_cons pd_str (pds_cons (pd_tup (pds_cons pd_str (pds_cons pd_str (pds_cons pd_str pds_nil)))) pds_nil))) pds_nil)))))
      (pss_one (ps_ret (pd_tup (pds_cons (pd_tup (pds_cons (pd_var (d := (Fnc.d F11)) 0) (pds_cons (pd_tup (pds_cons pd_str (pds_cons pd_int (pds_cons pd_int (pds_cons (pd_tup (pds_cons (pd_tup (pds_cons pd_str (pds_cons pd_int (pds_cons pd_int pds_nil)))) (pds_cons (pd_tup (pds_cons pd_str (pds_cons pd_int (pds_cons pd_int pds_nil)))) pds_nil))) (pds_cons pd_int (pds_cons (pd_var (d := (.tuple (Q12.rows.map Rw.d))) 1) pds_nil))))))) pds_nil))) (pds_cons pd_str (pds_cons pd_int pds_nil)))))))), ?_⟩
    refine ⟨(by repeat' first | exact True.intro | refine ⟨?_, ?_⟩), fun v1 H1 s1 t1 => ?_⟩
    refine ⟨(by repeat' first | exact True.intro | refine ⟨?_, ?_⟩), fun v2 H2 s2 t2 => ?_⟩
    have ht1 : Tp K H2 v1 (Fnc.d F11) := t1.mono s2.tsm
    have ht2 : Tp K H2 v2 (.tuple (Q12.rows.map Rw.d)) := t2
    refine ⟨(by repeat' first | exact True.intro | exact ⟨_, rfl, ht1⟩ | exact ⟨_, rfl, ht2⟩ | refine ⟨?_, ?_⟩), fun v3 H3 s3 t3 => ?_⟩
    exact q v3 H3 (s1.trans (s2.trans s3)) t3
theorem h__law_word_program (D : Dfs w K mg) : Has P w K mg base 1 "_law_word_program" (spS K S4) := by
  refine D.f__law_word_program.has sc__law_word_program (fun vs H Q E h => ?_) (fun f cdv A outer s H vs Q E hr h => ?_)
  · obtain ⟨rfl, _⟩ := h
    rfl
  · obtain ⟨rfl, q⟩ := h
    refine ⟨_, (pss_cons (ps_set (i := 0) sc__law_word_program.nd rfl (.inl rfl) (pd_tup (pds_cons (pd_tup (pds_cons pd_str (pds_cons pd_str (pds_cons pd_str pds_nil)))) (pds_cons (pd_tup (pds_cons pd_str (pds_cons pd_str (pds_cons pd_str (pds_cons (pd_tup (pds_cons pd_str (pds_cons pd_int pds_nil))) pds_nil))))) (pds_cons (pd_tup (pds_cons pd_str (pds_cons pd_str (pds_cons pd_str (pds_cons (pd_tup pds_nil) pds_nil))))) pds_nil)))))
      (pss_cons (ps_set (i := 1) sc__law_word_program.nd rfl (.inl rfl) (pd_tup (pds_cons (pd_tup (pds_cons pd_str (pds_cons pd_str pds_nil))) (pds_cons (pd_tup (pds_cons pd_str pds_nil)) (pds_cons (pd_tup (pds_cons pd_str (pds_cons pd_int pds_nil))) (pds_cons (pd_tup (pds_cons pd_str pds_nil)) (pds_cons (pd_tup (pds_cons pd_str pds_nil)) (pds_cons (pd_tup (pds_cons pd_str (pds_cons (pd_tup (pds_cons pd_str (pds_cons pd_str (pds_cons pd_str pds_nil)))) pds_nil))) pds_nil))))))))
      (pss_cons (ps_set (i := 2) sc__law_word_program.nd rfl (.inl rfl) (pd_tup (pds_cons (pd_tup (pds_cons pd_str (pds_cons pd_int (pds_cons pd_int (pds_cons (pd_tup (pds_cons (pd_tup (pds_cons pd_str (pds_cons pd_int (pds_cons pd_int pds_nil)))) (pds_cons (pd_tup (pds_cons pd_str (pds_cons pd_int (pds_cons pd_int pds_nil)))) pds_nil))) (pds_cons pd_int (pds_cons (pd_var (d := (.tuple (Q41.rows.map Rw.d))) 1) pds_nil))))))) pds_nil)))
      (pss_cons (ps_set (i := 2) sc__law_word_program.nd rfl (.inl rfl) (pd_cat (pd_var (d := (.tuple [Fnc.d F41])) 2) (pd_tup (pds_cons (pd_tup (pds_cons pd_str (pds_cons pd_neg (pds_cons pd_int (pds_cons (pd_tup (pds_cons (pd_tup (pds_cons pd_str (pds_cons pd_neg (pds_cons pd_int pds_nil)))) (pds_cons (pd_tup (pds_cons pd_str (pds_cons pd_int (pds_cons pd_int pds_nil)))) pds_nil))) (pds_cons pd_int (pds_cons (pd_cat (pd_var (d := (.tuple ((Q42.rows.take 3).map Rw.d))) 0) (pd_tup (pds_cons (pd_tup (pds_cons pd_str (pds_cons pd_str pds_nil))) pds_nil))) pds_nil))))))) pds_nil))))
      (pss_one (ps_ret (pd_tup (pds_cons (pd_cat (pd_var (d := (.tuple [Fnc.d F41, Fnc.d F42])) 2) (pd_tup (pds_cons (pd_tup (pds_cons pd_str (pds_cons pd_int (pds_cons pd_int (pds_cons (pd_tup pds_nil) (pds_cons pd_int (pds_cons (pd_tup pds_nil) pds_nil))))))) pds_nil))) (pds_cons pd_str (pds_cons pd_int pds_nil)))))))))), ?_⟩
    refine ⟨(by repeat' first | exact True.intro | refine ⟨?_, ?_⟩), fun v1 H1 s1 t1 => ?_⟩
    refine ⟨(by repeat' first | exact True.intro | refine ⟨?_, ?_⟩), fun v2 H2 s2 t2 => ?_⟩
    have ht1 : Tp K H2 v2 (.tuple (Q41.rows.map Rw.d)) := t2
    refine ⟨(by repeat' first | exact True.intro | exact ⟨_, rfl, ht1⟩ | refine ⟨?_, ?_⟩), fun v3 H3 s3 t3 => ?_⟩
    have hr3 : Tp K H3 v1 (.tuple ((Q42.rows.take 3).map Rw.d)) := t1.mono (s2.trans s3).tsm
    have hw3 : Tp K H3 v3 (.tuple [Fnc.d F41]) := t3
    refine ⟨(by repeat' first | exact True.intro | exact ⟨_, rfl, hr3⟩ | exact ⟨_, rfl, hw3⟩ | refine ⟨?_, ?_⟩), fun v4 H4 s4 t4 => ?_⟩
    have hw4 : Tp K H4 v4 (.tuple [Fnc.d F41, Fnc.d F42]) := t4
    refine ⟨(by repeat' first | exact True.intro | exact ⟨_, rfl, hw4⟩ | refine ⟨?_, ?_⟩), fun v5 H5 s5 t5 => ?_⟩
    exact q v5 H5 (s1.trans (s2.trans (s3.trans (s4.trans s5)))) t5
end
end B9

/-! The list of samples. -/
namespace B9
open PySem PySem.Spec PyProof.Rows L2

def deepD : List PyData := [Rw.d (.ifr (.bi "<" (.nm "x") (.int 0))), Rw.d (.whl (.nm "x")), Rw.d (.ifr (.bi "<" (.nm "x") (.int 2))), Rw.d (.whl (.nm "x")), Rw.d (.ifr (.bi "<" (.nm "x") (.int 4))), Rw.d (.whl (.nm "x"))]
theorem deep_at {i : Nat} (h : i < 6) : deepD[i]? = some (if i % 2 = 0 then .tuple [.str "if", .tuple [.str "<", .str "x", .int i]] else .tuple [.str "while", .str "x"]) := by
  match i, h with
  | 0, _ => rfl
  | 1, _ => rfl
  | 2, _ => rfl
  | 3, _ => rfl
  | 4, _ => rfl
  | 5, _ => rfl
def samples6 : List Pg := [S1, S2, S3, S4, S5, S6]
theorem samples_good : ∀ p ∈ samples6, Good p := by
  intro p hp
  simp only [samples6, List.mem_cons, List.not_mem_nil, or_false] at hp
  rcases hp with rfl | rfl | rfl | rfl | rfl | rfl
  · exact good1
  · exact good2
  · exact good3
  · exact good4
  · exact good5
  · exact good6
/-- a list at a new place, of data -/
def LD (K : PySem.W.Frag) (H : Hp) (o : Addr) (ds : List PyData) : Prop := ∃ ys, H o = some (.lst ys) ∧ TpAll K H ys ds
section
variable {K : PySem.W.Frag} {H H' : Hp} {o : Addr} {ds : List PyData} {d : PyData} {v : V}
theorem LD.same (h : LD K H o ds) (s : Same H H') : LD K H' o ds := by
  obtain ⟨ys, e, t⟩ := h
  exact ⟨ys, s _ _ e, t.mono s.tsm⟩
theorem LD.put (h : LD K H o ds) (t : Tp K H v d) (hl : ds.length ≤ 100) : ∃ ys, H o = some (.lst ys) ∧ ys.length < sizeLine ∧ LD K (upd H o (.lst (ys ++ [v]))) o (ds ++ [d]) ∧ TSm K H (upd H o (.lst (ys ++ [v]))) := by
  obtain ⟨ys, e, ta⟩ := h
  have t2 := tsm_upd (K := K) (o' := .lst (ys ++ [v])) e rfl
  exact ⟨ys, e, small1000 (by rw [ta.length]; omega), ⟨_, upd_same, (ta.mono t2).append (.cons (t.mono t2) .nil)⟩, t2⟩
end
section
variable {P : Program} {w : World} {K : PySem.W.Frag} {mg : Str → Option Value} {base : Heap}
def spSam (K : PySem.W.Frag) : Sp := fun vs H Q _ => vs = [] ∧ ∀ p H', Same H H' → LD K H' p (samples6.map Pg.d) → Q (.ref p) H'
theorem h__law_samples (D : Dfs w K mg) : Has P w K mg base 2 "_law_samples" (spSam K) := by
  refine D.f__law_samples.has sc__law_samples (fun vs H Q E h => ?_) (fun f cdv A outer s H vs Q E hr h => ?_)
  · obtain ⟨rfl, _⟩ := h
    rfl
  · obtain ⟨rfl, q⟩ := h
    refine ⟨_, (pss_cons (ps_set (i := 0) sc__law_samples.nd rfl (.inl rfl) (pe_lst (pa_cons (pc0 (h__law_first_program D) hr) pa_nil)))
      (pss_cons (ps_set (i := 1) sc__law_samples.nd rfl (.inl rfl) (pd_tup (pds_cons (pd_tup (pds_cons pd_str (pds_cons (pd_tup (pds_cons pd_str (pds_cons pd_str (pds_cons pd_str pds_nil)))) pds_nil))) (pds_cons (pd_tup (pds_cons pd_str (pds_cons (pd_tup (pds_cons pd_str (pds_cons pd_str (pds_cons pd_int pds_nil)))) pds_nil))) (pds_cons (pd_tup (pds_cons pd_str (pds_cons pd_str (pds_cons (pd_tup (pds_cons pd_str (pds_cons pd_str (pds_cons pd_str pds_nil)))) pds_nil)))) (pds_cons (pd_tup (pds_cons pd_str pds_nil)) pds_nil))))))
      (pss_cons (ps_set (i := 1) sc__law_samples.nd rfl (.inl rfl) (pd_cat (pd_var (d := (.tuple ((Q21.rows.take 4).map Rw.d))) 1) (pd_tup (pds_cons (pd_tup (pds_cons pd_str (pds_cons pd_str (pds_cons (pd_tup (pds_cons pd_str (pds_cons pd_str (pds_cons pd_int pds_nil)))) pds_nil)))) (pds_cons (pd_tup (pds_cons pd_str pds_nil)) (pds_cons (pd_tup (pds_cons pd_str pds_nil)) (pds_cons (pd_tup (pds_cons pd_str (pds_cons pd_str pds_nil))) pds_nil)))))))
      (pss_cons (ps_expr (pe_bm PySem.F.plainAttrs_list PySem.F.slot_list_append PySem.F.type_list_append mt_append (pv 0) (pa_cons (pd_tup (pds_cons (pd_tup (pds_cons (pd_tup (pds_cons pd_str (pds_cons pd_int (pds_cons pd_int (pds_cons (pd_tup (pds_cons (pd_tup (pds_cons pd_str (pds_cons pd_int (pds_cons pd_int pds_nil)))) (pds_cons (pd_tup (pds_cons pd_str (pds_cons pd_int (pds_cons pd_int pds_nil)))) pds_nil))) (pds_cons pd_int (pds_cons (pd_var (d := (.tuple (Q21.rows.map Rw.d))) 1) pds_nil))))))) pds_nil)) (pds_cons pd_str (pds_cons pd_int pds_nil)))) pa_nil)))
      (pss_cons (ps_set (i := 2) sc__law_samples.nd rfl (.inl rfl) (pe_callTy call_tuple_of (by rfl) D.b_tuple (by decide +kernel) (pa_cons (pe_lc (own := [("_law_k", 3)]) (by rfl) sc__law_samples.nd (pi_range1 (by rfl) D.b_range (pa_cons pe_int pa_nil)) (blkOk_by (own := [("_law_k", 3)]) (N := N__law_samples) (sc := defScope s__law_samples) (by decide +kernel)) (fun _ _ _ _ _ => (pg_name (i := 3) sc__law_samples.nd rfl (Or.inl rfl))) (fun _ _ _ _ _ => pts_nil) (fun _ _ _ _ _ => (pe_ifExp (pt_cmpR op_eq (pe_op op_mod (pe_callTy call_int1 (by rfl) D.b_int (by decide +kernel) (pa_cons (pv 3) pa_nil)) pe_int) pe_int (nomark _)) (pe_tup (pa_cons pe_str (pa_cons (pe_tup (pa_cons pe_str (pa_cons pe_str (pa_cons (pv 3) pa_nil)))) pa_nil))) (pe_tup (pa_cons pe_str (pa_cons pe_str pa_nil)))))) pa_nil)))
      (pss_cons (ps_expr (pe_bm PySem.F.plainAttrs_list PySem.F.slot_list_append PySem.F.type_list_append mt_append (pv 0) (pa_cons (pd_tup (pds_cons (pd_tup (pds_cons (pd_tup (pds_cons pd_str (pds_cons pd_int (pds_cons pd_int (pds_cons (pd_tup (pds_cons (pd_tup (pds_cons pd_str (pds_cons pd_neg (pds_cons pd_int pds_nil)))) pds_nil)) (pds_cons pd_int (pds_cons (pd_cat (pd_cat (pd_var (d := (.tuple deepD)) 2) (pd_tup (pds_cons (pd_tup (pds_cons pd_str (pds_cons pd_str (pds_cons pd_int pds_nil)))) pds_nil))) (pd_rep (pd_tup (pds_cons (pd_tup (pds_cons pd_str pds_nil)) pds_nil)))) pds_nil))))))) pds_nil)) (pds_cons pd_str (pds_cons pd_int pds_nil)))) pa_nil)))
      (pss_cons (ps_expr (pe_bm PySem.F.plainAttrs_list PySem.F.slot_list_append PySem.F.type_list_append mt_append (pv 0) (pa_cons (pc0 (h__law_word_program D) hr) pa_nil)))
      (pss_cons (ps_expr (pe_bm PySem.F.plainAttrs_list PySem.F.slot_list_append PySem.F.type_list_append mt_append (pv 0) (pa_cons (pd_tup (pds_cons (pd_tup (pds_cons (pd_tup (pds_cons pd_str (pds_cons pd_neg (pds_cons pd_neg (pds_cons (pd_tup pds_nil) (pds_cons pd_int (pds_cons (pd_tup pds_nil) pds_nil))))))) (pds_cons (pd_tup (pds_cons pd_str (pds_cons pd_int (pds_cons pd_int (pds_cons (pd_tup pds_nil) (pds_cons pd_int (pds_cons (pd_tup (pds_cons (pd_tup (pds_cons pd_str (pds_cons pd_int pds_nil))) pds_nil)) pds_nil))))))) pds_nil))) (pds_cons pd_str (pds_cons pd_int pds_nil)))) pa_nil)))
      (pss_cons (ps_set (i := 1) sc__law_samples.nd rfl (.inl rfl) (pd_tup (pds_cons (pd_tup (pds_cons pd_str (pds_cons pd_str pds_nil))) (pds_cons (pd_tup (pds_cons pd_str (pds_cons pd_str (pds_cons pd_str (pds_cons (pd_tup (pds_cons (pd_tup (pds_cons pd_str (pds_cons pd_str (pds_cons pd_int pds_nil)))) pds_nil)) pds_nil))))) (pds_cons (pd_tup (pds_cons pd_str pds_nil)) (pds_cons (pd_tup (pds_cons pd_str (pds_cons (pd_tup (pds_cons pd_str (pds_cons pd_str (pds_cons pd_int pds_nil)))) pds_nil))) pds_nil))))))
      (pss_one (ps_ret (pe_op op_cat (pv 0) (pe_lst (pa_cons (pd_tup (pds_cons (pd_tup (pds_cons (pd_tup (pds_cons pd_str (pds_cons pd_int (pds_cons pd_int (pds_cons (pd_tup (pds_cons (pd_tup (pds_cons pd_str (pds_cons pd_int (pds_cons pd_int pds_nil)))) pds_nil)) (pds_cons pd_int (pds_cons (pd_var (d := (.tuple (Q61.rows.map Rw.d))) 1) pds_nil))))))) pds_nil)) (pds_cons pd_str (pds_cons pd_int pds_nil)))) pa_nil)))))))))))))), ?_⟩
    -- found = [first]
    refine ⟨rfl, fun v1 H1 s1 t1 => ⟨len1_line, fun o no => ?_⟩⟩
    have hoH : H o = none := by
      cases e : H o with
      | none => rfl
      | some ob => rw [s1 _ _ e] at no; cases no
    have s2 : Same H1 (upd H1 o (.lst [v1])) := same_upd no
    have L2 : LD K (upd H1 o (.lst [v1])) o [S1.d] := ⟨_, upd_same, .cons (t1.mono s2.tsm) .nil⟩
    have sA : Same H (upd H1 o (.lst [v1])) := s1.trans s2
    generalize upd H1 o (.lst [v1]) = H2 at s2 L2 sA
    -- rows
    refine ⟨(by repeat' first | exact True.intro | refine ⟨?_, ?_⟩), fun v3 H3 s3 t3 => ?_⟩
    have hv : Tp K H3 v3 (.tuple ((Q21.rows.take 4).map Rw.d)) := t3
    refine ⟨(by repeat' first | exact True.intro | exact ⟨_, rfl, hv⟩ | refine ⟨?_, ?_⟩), fun v4 H4 s4 t4 => ?_⟩
    clear hv
    have hv : Tp K H4 v4 (.tuple (Q21.rows.map Rw.d)) := t4
    have L4 := L2.same (s3.trans s4)
    have sA4 := sA.trans (s3.trans s4)
    -- the second
    obtain ⟨ys4, e4, _⟩ := id L4
    refine ⟨_, rfl, .inl ⟨rfl, _, .of e4⟩, (by repeat' first | exact True.intro | exact ⟨_, rfl, hv⟩ | refine ⟨?_, ?_⟩), fun v5 H5 s5 t5 => ?_⟩
    have sA5 := sA4.trans s5
    obtain ⟨ys5, e5, z5, L6, t56⟩ := (L4.same s5).put (d := S2.d) t5 (by decide)
    refine ⟨o, _, _, rfl, rfl, e5, z5, ?_⟩
    have sA6 := same_at (o := .lst (ys5 ++ [v5])) hoH sA5
    generalize upd H5 o (.lst (ys5 ++ [v5])) = H6 at L6 t56 sA6
    clear hv
    -- deep
    refine ⟨6, rfl, by decide, by decide, fun Dl nL => ?_⟩
    refine walkR (lo := 0) (n := 6) (PvS K H6 Dl deepD) (PvS.zero nL) (fun i H7 hi p7 => ?_) (fun H7 p7 => ?_)
    · rw [show (0 : Int) + (i : Nat) = (i : Nat) by omega]
      have hd := deep_at hi
      refine ⟨rfl, _, rfl, .inl ⟨_, rfl, _, _, rfl, rfl, (by decide : (0 : Int) < 2), rfl, _, rfl, ite2 (fun hc => ?_) (fun hc => ?_)⟩⟩
      · have hi2 : i % 2 = 0 := by
          have h1 : V.int (((i : Nat) : Int) % 2) = V.int 0 := of_decide_eq_true hc
          injection h1 with h1
          omega
        rw [if_pos hi2] at hd
        refine ⟨_, rfl, len3_line, fun c1 nc1 => ?_⟩
        have s8 : Same H7 (upd H7 c1 (.tup [.str "<", .str "x", .int (i : Nat)])) := same_upd nc1
        have e8 : (upd H7 c1 (.tup [.str "<", .str "x", .int (i : Nat)])) c1 = some (.tup [.str "<", .str "x", .int (i : Nat)]) := upd_same
        generalize upd H7 c1 (.tup [.str "<", .str "x", .int (i : Nat)]) = H8 at s8 e8
        refine ⟨len2_line, fun c2 nc2 => ?_⟩
        have s9 : Same H8 (upd H8 c2 (.tup [.str "if", .ref c1])) := same_upd nc2
        exact PvS.step nL p7 (by omega) (s8.trans s9) hd (.tup (.of upd_same) (.cons (.str _) (.cons (.tup (.of (s9 _ _ e8)) (.cons (.str _) (.cons (.str _) (.cons (.int _) .nil)))) .nil)))
      · have hi2 : ¬ i % 2 = 0 := fun z => by
          refine hc (decide_eq_true ?_)
          show V.int (((i : Nat) : Int) % 2) = V.int 0
          congr 1
          omega
        rw [if_neg hi2] at hd
        refine ⟨len2_line, fun c2 nc2 => ?_⟩
        exact PvS.step nL p7 (by omega) (same_upd nc2) hd (.tup (.of upd_same) (.cons (.str _) (.cons (.str _) .nil)))
    obtain ⟨zs, ez, hz⟩ := p7.done rfl
    refine ⟨Dl, zs, rfl, .inl ⟨.of ez, fun tl ntl => ?_⟩⟩
    have s8 : Same H7 (upd H7 tl (.tup zs)) := same_upd ntl
    have hv : Tp K (upd H7 tl (.tup zs)) (.ref tl) (.tuple deepD) := .tup (.of upd_same) (hz.mono s8.tsm)
    generalize upd H7 tl (.tup zs) = H8 at s8 hv
    have s68 := p7.1.trans s8
    have L8 := L6.same s68
    have sA8 := sA6.trans s68
    -- the third
    obtain ⟨ys8, e8, _⟩ := id L8
    refine ⟨_, rfl, .inl ⟨rfl, _, .of e8⟩, (by repeat' first | exact True.intro | exact ⟨_, rfl, hv⟩ | refine ⟨?_, ?_⟩), fun v9 H9 s9 t9 => ?_⟩
    have sA9 := sA8.trans s9
    obtain ⟨ys9, e9, z9, L10, t910⟩ := (L8.same s9).put (d := S3.d) t9 (by decide)
    refine ⟨o, _, _, rfl, rfl, e9, z9, ?_⟩
    have sA10 := same_at (o := .lst (ys9 ++ [v9])) hoH sA9
    generalize upd H9 o (.lst (ys9 ++ [v9])) = H10 at L10 t910 sA10
    clear hv
    -- the fourth
    obtain ⟨ys10, e10, _⟩ := id L10
    refine ⟨_, rfl, .inl ⟨rfl, _, .of e10⟩, rfl, fun v11 H11 s11 t11 => ?_⟩
    have sA11 := sA10.trans s11
    obtain ⟨ys11, e11, z11, L12, t1112⟩ := (L10.same s11).put (d := S4.d) t11 (by decide)
    refine ⟨o, _, _, rfl, rfl, e11, z11, ?_⟩
    have sA12 := same_at (o := .lst (ys11 ++ [v11])) hoH sA11
    generalize upd H11 o (.lst (ys11 ++ [v11])) = H12 at L12 t1112 sA12
    -- the fifth
    obtain ⟨ys12, e12, _⟩ := id L12
    refine ⟨_, rfl, .inl ⟨rfl, _, .of e12⟩, (by repeat' first | exact True.intro | refine ⟨?_, ?_⟩), fun v13 H13 s13 t13 => ?_⟩
    have sA13 := sA12.trans s13
    obtain ⟨ys13, e13, z13, L14, t1314⟩ := (L12.same s13).put (d := S5.d) t13 (by decide)
    refine ⟨o, _, _, rfl, rfl, e13, z13, ?_⟩
    have sA14 := same_at (o := .lst (ys13 ++ [v13])) hoH sA13
    generalize upd H13 o (.lst (ys13 ++ [v13])) = H14 at L14 t1314 sA14
    -- rows again, the sixth
    refine ⟨(by repeat' first | exact True.intro | refine ⟨?_, ?_⟩), fun v15 H15 s15 t15 => ?_⟩
    have hv : Tp K H15 v15 (.tuple (Q61.rows.map Rw.d)) := t15
    refine ⟨_, rfl, (by repeat' first | exact True.intro | exact ⟨_, rfl, hv⟩ | refine ⟨?_, ?_⟩), fun v16 H16 s16 t16 => ?_⟩
    refine ⟨len1_line, fun l nl => ?_⟩
    have s17 : Same H16 (upd H16 l (.lst [v16])) := same_upd nl
    have el : (upd H16 l (.lst [v16])) l = some (.lst [v16]) := upd_same
    generalize upd H16 l (.lst [v16]) = H17 at s17 el
    have s147 := s15.trans (s16.trans s17)
    obtain ⟨ys17, e17, t17⟩ := L14.same s147
    refine ⟨o, l, _, _, rfl, rfl, e17, el, ?_, fun p np => ?_⟩
    · rw [t17.length]
      exact small3 (by show 5 + 1 ≤ 100; decide)
    · have s18 : Same H17 (upd H17 p (.lst (ys17 ++ [v16]))) := same_upd np
      refine q p _ (sA14.trans (s147.trans s18)) ⟨_, upd_same, ?_⟩
      have t16' : Tp K H16 v16 S6.d := t16
      exact (t17.mono s18.tsm).append (.cons (t16'.mono (s17.trans s18).tsm) .nil)
end
end B9

/-! The law itself. -/
namespace B9
open PySem PySem.Spec PyProof.Rows L2

/-- a row's own number of places -/
def tDue (K : PySem.W.Frag) : TE := fun σ H Q => ∃ (v : V) (row : Rw), σ[10]? = some (some v) ∧ Tp K H v row.d ∧ ∀ H', Same H H' → Q (.int row.parts.length) H'
theorem keys_pair {K : PySem.W.Frag} {H : Hp} : ∀ {xs : List V} {pl : List Pl}, TpAll K H xs (pl.map Pl.d) → Paired (fun x k => ∃ t, x = V.ref t ∧ SqT K H t [.str k.1, .int k.2.1, .int k.2.2]) xs (pl.map Pl.key)
  | _, [], h => by
    rw [h.nil_inv]
    exact .nil
  | _, p :: pl, h => by
    obtain ⟨v, vs, rfl, t, h2⟩ := TpAll.cons_inv h
    obtain ⟨a, rfl, hS⟩ := Pl.inv t
    exact .cons ⟨a, rfl, hS⟩ (keys_pair h2)
theorem PgW.keys {p : Pg} (h : PgW p) : (p.places.map Pl.key).Pairwise fun a b => lt3 a b = true := by
  rw [List.pairwise_map]
  exact h.places_asc
theorem PgW.fsh {p : Pg} (h : PgW p) : ∀ d ∈ p.fns.map Fnc.d, d.canLay0 = true ∧ d.depth ≤ 60 := fun d hd => by
  obtain ⟨f, hf, rfl⟩ := List.mem_map.mp hd
  exact ⟨(h.fok f hf).lay, Nat.le_trans (h.fok f hf).dep (by decide)⟩
theorem PgW.psh {p : Pg} (h : PgW p) : ∀ d ∈ p.places.map Pl.d, d.canLay0 = true ∧ d.depth ≤ 60 := fun d hd => by
  obtain ⟨x, hx, rfl⟩ := List.mem_map.mp hd
  have := Pl.lay (h.pl_ok hx)
  exact ⟨this.1, Nat.le_trans this.2 (by decide)⟩
def Pg.titles (p : Pg) : List Str := p.fns.map (·.nm)
theorem PgW.tok {p : Pg} (h : PgW p) : ∀ n ∈ p.titles, okNm n = true := fun n hn => by
  obtain ⟨f, hf, rfl⟩ := List.mem_map.mp hn
  exact (h.fok f hf).nm
section
variable {P : Program} {w : World} {K : PySem.W.Frag} {mg : Str → Option Value} {base : Heap}
def spLaw (K : PySem.W.Frag) : Sp := fun vs H Q _ => ∃ (sa : Addr) (ns : List Int), vs = [.ref sa] ∧ SqL K H sa (ns.map V.int) ∧ ns.length ≤ 63 ∧ ∀ H', Q (.bl true) H'
theorem law_body (D : Dfs w K mg) (f : Addr) (cdv : Value) (A : Around) (outer : List Env) (s : Shared) (H : Hp) (vs : List V) (Q : VK) (E : XK) (hr : Room 32 (A.deeper (envOfC "law" (defScope s_law) s.heap.objs.size f cdv))) (h : spLaw K vs H Q E) :
    ∃ t, PSs (cxOf CX0 P w K mg base N_law "law" (defScope s_law) f cdv A outer s H E).nox (defBody s_law) t ∧ t { nx := fun _ H' => Q .non H', rt := Q } (start N_law vs) H := by
  obtain ⟨sa, ns, rfl, hS, hl, q⟩ := h
  refine ⟨_, (pss_cons (ps_set (i := 1) sc_law.nd rfl (.inr rfl) (pc (h__law_feed D) hr (pa_cons (pv 0) pa_nil)))
    (pss_cons (ps_for PassesOwn.never rfl (pi_list (pe_op op_cat (pc0 (h__law_samples D) hr) (pe_lc (own := [("_law_k", 8)]) (by rfl) sc_law.nd (pi_range1 (by rfl) D.b_range (pa_cons pe_int pa_nil)) (blkOk_by (own := [("_law_k", 8)]) (N := N_law) (sc := defScope s_law) (by decide +kernel)) (fun _ _ _ _ _ => (pg_name (i := 8) sc_law.nd rfl (Or.inl rfl))) (fun _ _ _ _ _ => pts_nil) (fun _ _ _ _ _ => (pc (h__law_program D) hr (pa_cons (pv 1) pa_nil)))))) (pg_name (i := 2) sc_law.nd rfl (.inr rfl)) (pss_cons (ps_asg (pe_tup (pa_cons (pc (h_places_of D) hr (pa_cons (pv 2) pa_nil)) (pa_cons (pe_lc (own := [("_law_whole", 6)]) (te := tOp (rIxT K) (tVar 6) (tC (.int 0))) (by rfl) sc_law.nd (pi_tup (pe_ix ix_tup (pv 2) pe_int (fun _ _ => rfl))) (blkOk_by (own := [("_law_whole", 6)]) (N := N_law) (sc := defScope s_law) (by decide +kernel)) (fun _ _ _ _ _ => (pg_name (i := 6) sc_law.nd rfl (Or.inl rfl))) (fun _ _ _ _ _ => pts_nil) (fun _ _ _ _ _ => (pe_ix ix_tup (pv 6) pe_int (fun _ _ => rfl)))) pa_nil))) (pg_tup rfl (pgs_cons (pg_name (i := 3) sc_law.nd rfl (.inr rfl)) (pgs_cons (pg_name (i := 4) sc_law.nd rfl (.inl rfl)) pgs_nil))))
    (pss_cons (ps_if (PW.pt (pw_or (pt_cmpR op_ne (pc (h_lets_program D) hr (pa_cons (pv 2) pa_nil)) (pe_callB call_len (by rfl) D.b_len (by decide +kernel) (pa_cons (pv 3) pa_nil)) (nomark _)) (pw_or1 (pt_cmpR (op_neD hr.units) (pe_callTy call_list_of (by rfl) D.b_list (by decide +kernel) (pa_cons (pv 3) pa_nil)) (pe_callB cr_sort3 (by rfl) D.b_sorted (by decide +kernel) (pa_cons (pv 3) pa_nil)) (nomark _))))) (pss_one (ps_ret pe_bl)) pss_nil)
    (pss_cons (ps_if (pt_cmpR (op_neD hr.units) (pv 4) (pe_callB cr_sortedS (by rfl) D.b_sorted (by decide +kernel) (pa_cons (pv 4) pa_nil)) (nomark _)) (pss_one (ps_ret pe_bl)) pss_nil)
    (pss_cons (ps_if (pt_cmpR (op_neD hr.units) (pe_lc (own := [("_law_k", 8)]) (tt := tTest (tOp (rEqD K) (tOp (rIxT K) (tVar 3) (tVar 8)) (tOp (rIxT K) (tVar 3) (tOp (rI0 fun i j => .int (i - j)) (tVar 8) (tC (.int 1)))))) (by rfl) sc_law.nd (pi_range2 (by rfl) D.b_range (pa_cons pe_int (pa_cons (pe_callB call_len (by rfl) D.b_len (by decide +kernel) (pa_cons (pv 3) pa_nil)) pa_nil))) (blkOk_by (own := [("_law_k", 8)]) (N := N_law) (sc := defScope s_law) (by decide +kernel)) (fun _ _ _ _ _ => (pg_name (i := 8) sc_law.nd rfl (Or.inl rfl))) (fun _ _ _ _ _ => (pts_one (pt_cmpR (op_eqD hr.units) (pe_ix ix_tup (pv 3) (pv 8) (fun _ _ => rfl)) (pe_ix ix_tup (pv 3) (pe_op op_sub (pv 8) pe_int) (fun _ _ => rfl)) (nomark _)))) (fun _ _ _ _ _ => (pv 8))) (pe_lst pa_nil) (nomark _)) (pss_one (ps_ret pe_bl)) pss_nil)
    (pss_cons (ps_if (pt_cmpR (op_neD hr.units) (pe_lc (own := [("_law_place", 9)]) (by rfl) sc_law.nd (pi_tup (pv 3)) (blkOk_by (own := [("_law_place", 9)]) (N := N_law) (sc := defScope s_law) (by decide +kernel)) (fun _ _ _ _ _ => (pg_name (i := 9) sc_law.nd rfl (Or.inl rfl))) (fun _ _ _ _ _ => (pts_one (pt_not (pt_val (pc (h__law_place_right D) hr (pa_cons (pv 2) (pa_cons (pv 9) pa_nil))))))) (fun _ _ _ _ _ => (pv 9))) (pe_lst pa_nil) (nomark _)) (pss_one (ps_ret pe_bl)) pss_nil)
    (pss_one (ps_for PassesOwn.never rfl (pi_list (pv 4)) (pg_name (i := 5) sc_law.nd rfl (.inr rfl)) (pss_cons (ps_set (i := 6) sc_law.nd rfl (.inl rfl) (pc (h_function_of D) hr (pa_cons (pv 2) (pa_cons (pv 5) pa_nil))))
    (pss_cons (ps_if (PW.pt (pw_or (pt_cmpR (op_notInT (rin65 hr (by decide))) (pv 6) (pe_ix ix_tup (pv 2) pe_int (fun _ _ => rfl)) (by rfl)) (pw_or (pt_cmpR op_ne (pe_ix ix_tup (pv 6) pe_int (fun _ _ => rfl)) (pv 5) (nomark _)) (pw_or1 (pt_not (pt_val (pc (h__law_jumps_right D) hr (pa_cons (pe_ix ix_tup (pv 6) pe_int (fun _ _ => rfl)) pa_nil)))))))) (pss_one (ps_ret pe_bl)) pss_nil)
    (pss_cons (ps_if (pt_not (pt_val (pc (h__law_inside_right D) hr (pa_cons (pe_ix ix_tup (pv 6) pe_int (fun _ _ => rfl)) pa_nil)))) (pss_one (ps_ret pe_bl)) pss_nil)
    (pss_cons (ps_set (i := 7) sc_law.nd rfl (.inl rfl) (pe_callB (cr_sum rfl) (by rfl) D.b_sum (by decide +kernel) (pa_cons (pe_lc (own := [("_law_row", 10)]) (te := tDue K) (by rfl) sc_law.nd (pi_tup (pe_ix ix_tup (pv 6) pe_int (fun _ _ => rfl))) (blkOk_by (own := [("_law_row", 10)]) (N := N_law) (sc := defScope s_law) (by decide +kernel)) (fun _ _ _ _ _ => (pg_name (i := 10) sc_law.nd rfl (Or.inl rfl))) (fun _ _ _ _ _ => pts_nil) (fun _ _ _ _ _ => (pe_weak (te' := tDue K) (pe_ifExp (pt_cmpR op_eq (pe_ix ix_tup (pv 10) pe_int (fun _ _ => rfl)) pe_str (nomark _)) (pe_callB call_len (by rfl) D.b_len (by decide +kernel) (pa_cons (pe_ix ix_tup (pv 10) pe_int (fun _ _ => rfl)) pa_nil)) (pe_callTy call_int1 (by rfl) D.b_int (by decide +kernel) (pa_cons (pe_cmpR op_notIn_seq (pe_ix ix_tup (pv 10) pe_int (fun _ _ => rfl)) (pe_tup (pa_cons pe_str (pa_cons pe_str pa_nil))) (by rfl)) pa_nil))) (fun σ H Q q => by
      obtain ⟨v, row, e, t, q⟩ := q
      obtain ⟨a, xs, rfl, hS, hA⟩ := Rw.inv t
      refine ⟨_, e, a, _, 0, _, rfl, rfl, hS, at0, rfl, _, rfl, ?_⟩
      by_cases hcall : ∃ z g as, row = .call z g as
      · obtain ⟨z, g, as, rfl⟩ := hcall
        obtain ⟨b, ys, rfl, hb, hB⟩ := call_inv hA
        refine iteT1 (decide_eq_true rfl) ⟨_, e, a, _, 3, _, rfl, rfl, hS, at3, _, as.length, rfl, .inr ⟨ys, hb, hB.map_len.symm⟩, q H (Same.refl H)⟩
      · have hnc : decide (V.str row.word = V.str "call") = false := by
          rw [word_call]
          cases row with
          | call z g as => exact absurd ⟨z, g, as, rfl⟩ hcall
          | _ => rfl
        refine iteF1 hnc ⟨_, e, a, _, 0, _, rfl, rfl, hS, at0, len2_line, fun c nc => ⟨c, _, rfl, .inr (.of upd_same), rfl, flat_bare, .inr ⟨_, rfl, ?_⟩⟩⟩
        have hq := q _ (same_upd (o := .tup [.str "else", .str "end"]) nc)
        have hv : (if (!inV (.str row.word) [.str "else", .str "end"]) = true then (1 : Int) else 0) = (row.parts.length : Nat) := by
          rw [word_bare]
          cases row with
          | call z g as => exact absurd ⟨z, g, as, rfl⟩ hcall
          | _ => rfl
        show Q (.int (if (!inV (.str row.word) [.str "else", .str "end"]) = true then (1 : Int) else 0)) _
        rw [hv]
        exact hq)))) pa_nil)))
    (pss_one (ps_if (pt_cmpR op_ne (pe_callB call_len (by rfl) D.b_len (by decide +kernel) (pa_cons (pe_lc (own := [("_law_place", 9)]) (tt := tTest (tOp rEq (tOp (rIxT K) (tVar 9) (tC (.int 0))) (tVar 5))) (by rfl) sc_law.nd (pi_tup (pv 3)) (blkOk_by (own := [("_law_place", 9)]) (N := N_law) (sc := defScope s_law) (by decide +kernel)) (fun _ _ _ _ _ => (pg_name (i := 9) sc_law.nd rfl (Or.inl rfl))) (fun _ _ _ _ _ => (pts_one (pt_cmpR op_eq (pe_ix ix_tup (pv 9) pe_int (fun _ _ => rfl)) (pv 5) (nomark _)))) (fun _ _ _ _ _ => (pv 9))) pa_nil)) (pv 7) (nomark _)) (pss_one (ps_ret pe_bl)) pss_nil))))))))))))))
    (pss_one (ps_ret (pe_cmpR (op_eqD hr.units) (pc (h_jumps_of D) hr (pa_cons (pe_tup pa_nil) pa_nil)) (pe_tup pa_nil) (nomark _)))))), ?_⟩
  -- the feed
  refine ⟨_, rfl, sa, ns, rfl, hS, hl, fun fa H1 s1 nfa f1 => ?_⟩
  -- the programs
  refine ⟨rfl, fun ps H2 s2 L2 => ?_⟩
  have f2 := f1.same s2
  refine ⟨10, rfl, by decide, by decide, fun Dl nL => ?_⟩
  refine walkR (lo := 0) (n := 10) (PvN K fa H2 Dl Pg.d Good) (PvN.zero f2 nL) (fun i H3 hi p3 => ?_) (fun H3 p3 => ?_)
  · exact ⟨rfl, _, rfl, fa, rfl, p3.1.2, fun p v H4 fr4 tv g => PvN.step f2 nL p3 (by omega) fr4 tv g⟩
  obtain ⟨fr3, es, zs, hel, ez, hz, hg⟩ := p3
  obtain ⟨ys, ey, hy⟩ := L2
  have ey3 := fr3.lst f2 ey
  have hy3 := hy.mono (fr3.tsm f2)
  have hyl : ys.length = 6 := by rw [hy.map_len]; rfl
  have hzl : zs.length = 10 := by rw [hz.map_len, hel]
  refine ⟨ps, Dl, _, _, rfl, rfl, ey3, ez, small3 (by omega), fun pp npp => ?_⟩
  have s4 : Same H3 (upd H3 pp (.lst (ys ++ zs))) := same_upd npp
  have e4 : (upd H3 pp (.lst (ys ++ zs))) pp = some (.lst (ys ++ zs)) := upd_same
  generalize upd H3 pp (.lst (ys ++ zs)) = H4 at s4 e4
  have hall : TpAll K H4 (ys ++ zs) ((samples6 ++ es).map Pg.d) := by
    rw [List.map_append]
    exact (hy3.mono s4.tsm).append (hz.mono s4.tsm)
  have gall : ∀ p ∈ samples6 ++ es, Good p := fun p hp => by
    rcases List.mem_append.mp hp with hp | hp
    · exact samples_good p hp
    · exact hg p hp
  clear hy3 hy hz hg f2 f1 fr3
  refine ⟨pp, rfl, ⟨_, .of e4⟩, ?_⟩
  refine for_list (K := K) (a := pp) (xs := ys ++ zs) (fun i σ H' => Same H4 H' ∧ ∃ (y2 y3 y4 y5 y6 y7 : Option V), σ = [some (.ref sa), some (.ref fa.1), y2, y3, y4, y5, y6, y7, none, none, none]) ⟨Same.refl _, none, none, none, none, none, none, rfl⟩ (fun i σ H' _ w => .of (w.1 _ _ e4)) (fun i x σ H5 hx w => ?_) (fun σ H5 w => ?_)
  · obtain ⟨s5, y2, y3, y4, y5, y6, y7, rfl⟩ := w
    obtain ⟨p, hpi, hpm, tp4⟩ := hall.map_get hx
    have gp := gall p hpm
    have pw := gp.w
    have tp := tp4.mono s5.tsm
    obtain ⟨ap, v0, rfl, hSp, t0⟩ := Pg.inv tp
    obtain ⟨a0, xs0, rfl, hS0, hA0⟩ := t0.tup_inv
    have hl0 : xs0.length = p.fns.length := hA0.map_len
    have hl3 := pw.len
    have htl : p.titles.length = p.fns.length := by unfold Pg.titles; rw [List.length_map]
    -- places, titles
    refine ⟨_, rfl, _, p, rfl, tp, pw, fun vP H6 s6 tvP => ?_⟩
    obtain ⟨aP, xsP, rfl, hSP, hAP⟩ := tvP.tup_inv
    have hlP : xsP.length = p.places.length := hAP.map_len
    refine ⟨_, rfl, ap, _, 0, _, rfl, rfl, s6.tsm _ _ hSp, at0, a0, rfl, ⟨_, s6.tsm _ _ hS0⟩, fun Dt nt => ?_⟩
    refine walkT (K := K) (a := a0) (xs := xs0) (PvX H6 Dt (p.titles.map V.str)) (PvX.zero nt) (fun i H' _ w => (s6.trans w.1).tsm _ _ hS0) (fun i y H7 hy w => ?_) (fun H7 w => ?_)
    · obtain ⟨fn, hfi, hfm, tf⟩ := hA0.map_get hy
      obtain ⟨b, v3, v5, rfl, hSf, _, _⟩ := Fnc.inv tf
      have hil := (List.getElem?_eq_some_iff.mp hfi).1
      refine ⟨rfl, _, rfl, b, _, 0, _, rfl, rfl, (s6.trans w.1).tsm _ _ hSf, at0, ?_⟩
      exact PvX.step nt w (by omega) (Same.refl _) (by rw [List.getElem?_map]; unfold Pg.titles; rw [List.getElem?_map, hfi]; rfl)
    have eT : H7 Dt = some (.lst (p.titles.map V.str)) := by
      refine PvX.done (S := H6) ?_
      have el : (p.titles.map V.str).length = xs0.length := by rw [List.length_map, htl, hl0]
      rw [el]
      exact w
    have s67 := w.1
    clear w
    refine ⟨len2_line, fun c nc => ?_⟩
    have s8 : Same H7 (upd H7 c (.tup [.ref aP, .ref Dt])) := same_upd nc
    have e8 : (upd H7 c (.tup [.ref aP, .ref Dt])) c = some (.tup [.ref aP, .ref Dt]) := upd_same
    generalize upd H7 c (.tup [.ref aP, .ref Dt]) = H8 at s8 e8
    refine ⟨c, _, rfl, .of e8, rfl, _, _, rfl, _, _, rfl, rfl, ?_⟩
    have s68 := s67.trans s8
    have s58 := s6.trans s68
    have eT8 := s8 _ _ eT
    -- lets_program(p) != len(places)
    refine ⟨_, rfl, _, p, rfl, tp.mono s58.tsm, pw, fun H9 s9 => ?_⟩
    have s69 := s68.trans s9
    have s59 := s6.trans s69
    refine ⟨_, rfl, _, xsP.length, rfl, .inr ⟨_, s69.tsm _ _ hSP, rfl⟩, rfl, _, rfl, ?_⟩
    have ecnt : V.int p.count = V.int ((xsP.length : Nat) : Int) := by rw [hlP, p.places_len]
    refine iteF1 (b := !decide (V.int p.count = V.int ((xsP.length : Nat) : Int))) (by rw [decide_eq_true ecnt]; rfl) ?_
    -- list(places) != sorted(places)
    refine ⟨_, rfl, aP, _, rfl, .inr (s69.tsm _ _ hSP), fun l nl => ?_⟩
    have s10 : Same H9 (upd H9 l (.lst xsP)) := same_upd nl
    have e10 : (upd H9 l (.lst xsP)) l = some (.lst xsP) := upd_same
    generalize upd H9 l (.lst xsP) = H10 at s10 e10
    have s610 := s69.trans s10
    refine ⟨_, rfl, aP, xsP, p.places.map Pl.key, rfl, s610.tsm _ _ hSP, keys_pair (hAP.mono s610.tsm), pw.keys, fun l2 nl2 => ?_⟩
    have s11 : Same H10 (upd H10 l2 (.lst xsP)) := same_upd nl2
    have e11 : (upd H10 l2 (.lst xsP)) l2 = some (.lst xsP) := upd_same
    generalize upd H10 l2 (.lst xsP) = H11 at s11 e11
    have s611 := s610.trans s11
    have pshL : SeqAt.shaped (.list (p.places.map Pl.d)) = true := shapedL pw.psh
    refine ⟨.list (p.places.map Pl.d), .list (p.places.map Pl.d), .lst (.of (s11 _ _ e10)) (hAP.mono s611.tsm).dp, .lst (.of e11) (hAP.mono s611.tsm).dp, pshL, pshL, _, rfl, iteF1 (b := !PyData.eqv (.list (p.places.map Pl.d)) (.list (p.places.map Pl.d))) (neqv_self pshL) ?_⟩
    -- titles != sorted(titles)
    have s811 := s9.trans (s10.trans s11)
    have eT11 := s811 _ _ eT8
    refine ⟨_, rfl, _, rfl, Dt, p.titles, rfl, .of eT11, by omega, fun ws l3 hperm hsort nl3 => ?_⟩
    have hws : ws = p.titles := by
      refine sortedS_uniq hsort ?_ hperm
      unfold Pg.titles
      rw [List.pairwise_map]
      exact pw.asc.imp fun {f g} l => by rw [ltCps_eq]; exact decide_eq_true l
    subst hws
    have s12 : Same H11 (upd H11 l3 (.lst (p.titles.map V.str))) := same_upd nl3
    have e12 : (upd H11 l3 (.lst (p.titles.map V.str))) l3 = some (.lst (p.titles.map V.str)) := upd_same
    generalize upd H11 l3 (.lst (p.titles.map V.str)) = H12 at s12 e12
    have tshL : SeqAt.shaped (.list (p.titles.map .str)) = true := shapedL fun d hd => by
      obtain ⟨n, hn, rfl⟩ := List.mem_map.mp hd
      exact ⟨lay_str (pw.tok n hn), by simp only [PyData.depth]; omega⟩
    refine ⟨.list (p.titles.map .str), .list (p.titles.map .str), .lst (.of (s12 _ _ eT11)) (tpAll_strs _).dp, .lst (.of e12) (tpAll_strs _).dp, tshL, tshL, _, rfl, iteF1 (b := !PyData.eqv (.list (p.titles.map .str)) (.list (p.titles.map .str))) (neqv_self tshL) ?_⟩
    have s612 := s611.trans s12
    have eT12 := s12 _ _ eT11
    -- no place twice
    refine ⟨_, rfl, _, xsP.length, rfl, .inr ⟨_, s612.tsm _ _ hSP, rfl⟩, _, _, rfl, ⟨by omega, by omega, by omega, by have := pw.places_le; omega⟩, fun D3 n3 => ?_⟩
    refine walkR (lo := 1) (fun i H' => Same H12 H' ∧ H' D3 = some (.lst [])) ⟨same_upd n3, upd_same⟩ (fun i H13 hi w => ?_) (fun H13 w => ?_)
    · rw [show (1 : Int) + (i : Nat) = ((i + 1 : Nat) : Int) by omega]
      obtain ⟨x1, hx1, t1⟩ := hAP.at (i := i + 1) (d := (p.places[i + 1]'(by omega)).d) (by rw [List.getElem?_map, List.getElem?_eq_getElem (by omega)]; rfl)
      obtain ⟨x0, hx0, t0'⟩ := hAP.at (i := i) (d := (p.places[i]'(by omega)).d) (by rw [List.getElem?_map, List.getElem?_eq_getElem (by omega)]; rfl)
      have hne := pw.places_ne (i := i) (List.getElem?_eq_getElem (by omega)) (List.getElem?_eq_getElem (by omega))
      have hm1 := List.getElem_mem (l := p.places) (n := i + 1) (by omega)
      have hm0 := List.getElem_mem (l := p.places) (n := i) (by omega)
      have h0 : atI xsP (((i + 1 : Nat) : Int) - 1) = some x0 := by
        rw [show ((i + 1 : Nat) : Int) - 1 = (i : Nat) by omega]
        exact atI_nat hx0
      have s613 := s612.trans w.1
      refine ⟨rfl, _, rfl, _, rfl, aP, xsP, _, x1, rfl, rfl, s613.tsm _ _ hSP, atI_nat hx1, _, rfl, _, rfl, _, _, rfl, rfl, aP, xsP, _, x0, rfl, rfl, s613.tsm _ _ hSP, h0, _, _, (t1.mono s613.tsm).dp, (t0'.mono s613.tsm).dp, Pl.shaped (pw.pl_ok hm1), Pl.shaped (pw.pl_ok hm0), _, rfl, ?_⟩
      exact iteF1 (b := PyData.eqv (p.places[i + 1]'(by omega)).d (p.places[i]'(by omega)).d) (Pl.eqv_false (Ne.symm hne)) w
    refine ⟨Nat.zero_le _, fun c13 nc13 => ?_⟩
    have s13 : Same H13 (upd H13 c13 (.lst [])) := same_upd nc13
    refine ⟨.list [], .list [], .lst (.of (s13 _ _ w.2)) .nil, .lst (.of upd_same) .nil, shaped_nilL, shaped_nilL, _, rfl, iteF1 (b := !PyData.eqv (.list []) (.list [])) (by rw [eqvL_nil]; rfl) ?_⟩
    generalize upd H13 c13 (.lst []) = H14 at s13
    have s1214 := w.1.trans s13
    have s614 := s612.trans s1214
    have s514 := s6.trans s614
    have eT14 := s1214 _ _ eT12
    clear w s13
    -- every place is right
    refine ⟨_, rfl, aP, rfl, ⟨_, s614.tsm _ _ hSP⟩, fun D4 n4 => ?_⟩
    refine walkT (K := K) (a := aP) (xs := xsP) (fun i H' => Same H14 H' ∧ H' D4 = some (.lst [])) ⟨same_upd n4, upd_same⟩ (fun i H' _ w => (s614.trans w.1).tsm _ _ hSP) (fun i y H15 hy w => ?_) (fun H15 w => ?_)
    · obtain ⟨pl, hpl, hplm, tpl⟩ := hAP.map_get hy
      exact ⟨rfl, _, rfl, _, rfl, _, _, p, pl, rfl, tp.mono (s514.trans w.1).tsm, pw, tpl.mono (s614.trans w.1).tsm, hplm, fun H' s' => ⟨_, rfl, w.1.trans s', s' _ _ w.2⟩⟩
    refine ⟨Nat.zero_le _, fun c15 nc15 => ?_⟩
    have s15 : Same H15 (upd H15 c15 (.lst [])) := same_upd nc15
    refine ⟨.list [], .list [], .lst (.of (s15 _ _ w.2)) .nil, .lst (.of upd_same) .nil, shaped_nilL, shaped_nilL, _, rfl, iteF1 (b := !PyData.eqv (.list []) (.list [])) (by rw [eqvL_nil]; rfl) ?_⟩
    generalize upd H15 c15 (.lst []) = H16 at s15
    have s1416 := w.1.trans s15
    have s616 := s614.trans s1416
    have s516 := s6.trans s616
    have eT16 := s1416 _ _ eT14
    clear w s15
    -- function by function
    refine ⟨_, rfl, Dt, rfl, ⟨_, .of eT16⟩, ?_⟩
    refine for_list (K := K) (a := Dt) (xs := p.titles.map V.str) (fun i σ H' => Same H16 H' ∧ ∃ (y5 y6 y7 : Option V), σ = [some (.ref sa), some (.ref fa.1), some (.ref ap), some (.ref aP), some (.ref Dt), y5, y6, y7, none, none, none]) ⟨Same.refl _, _, _, _, rfl⟩ (fun i σ H' _ w => .of (w.1 _ _ eT16)) (fun i y σ H17 hy w => ?_) (fun σ H17 w => ?_)
    · obtain ⟨s17, y5, y6, y7, rfl⟩ := w
      rw [List.getElem?_map] at hy
      have htf : p.titles[i]? = (p.fns[i]?).map (·.nm) := by unfold Pg.titles; rw [List.getElem?_map]
      rw [htf] at hy
      cases hfi : p.fns[i]? with
      | none => rw [hfi] at hy; cases hy
      | some fn =>
      rw [hfi] at hy
      cases hy
      have hfm : fn ∈ p.fns := List.mem_of_getElem? hfi
      have hfn := pw.fok fn hfm
      have s617 := s616.trans s17
      have s517 := s6.trans s617
      refine ⟨_, rfl, _, rfl, _, p, fn, rfl, tp.mono s517.tsm, pw, hfm, fun vW tW => ?_⟩
      obtain ⟨aW, v3, v5, rfl, hSW, _, t5⟩ := Fnc.inv tW
      have hmem : fn.d ∈ p.fns.map Fnc.d := List.mem_map.mpr ⟨fn, hfm, rfl⟩
      have fsh := pw.fsh
      refine ⟨_, rfl, _, rfl, ap, _, 0, _, rfl, rfl, s517.tsm _ _ hSp, at0, fn.d, p.fns.map Fnc.d, tW.dp, (t0.mono s517.tsm).dp, hfn.shaped, shapedT fsh, _, rfl, iteF1 (b := !((p.fns.map Fnc.d).any fun z => PyData.eqv z fn.d)) (by rw [any_self (fsh _ hmem).1 hmem]; rfl) ?_⟩
      refine ⟨_, rfl, aW, _, 0, _, rfl, rfl, hSW, at0, _, rfl, rfl, _, rfl, iteF1 (b := !decide (V.str fn.nm = V.str fn.nm)) (by rw [decide_eq_true rfl]; rfl) ?_⟩
      obtain ⟨js, jok⟩ := gp.j fn hfm
      refine ⟨_, rfl, aW, _, 5, _, rfl, rfl, hSW, at5, v5, fn.rows, js, rfl, t5, jok, hfn.rlen, fun H18 s18 => ⟨_, rfl, ?_⟩⟩
      refine ⟨_, rfl, aW, _, 5, _, rfl, rfl, s18.tsm _ _ hSW, at5, v5, fn.rows, js, rfl, t5.mono s18.tsm, jok, hfn.rlen, fun H19 s19 => ⟨_, rfl, ?_⟩⟩
      have s1719 := s18.trans s19
      -- due
      obtain ⟨a5, xs5, rfl, hS5, hA5⟩ := t5.tup_inv
      refine ⟨_, rfl, aW, _, 5, _, rfl, rfl, s1719.tsm _ _ hSW, at5, a5, rfl, ⟨_, s1719.tsm _ _ hS5⟩, fun Dd nd => ?_⟩
      refine walkT (K := K) (a := a5) (xs := xs5) (PvX H19 Dd ((fn.rows.map fun r => (r.parts.length : Int)).map V.int)) (PvX.zero nd) (fun i H' _ w => (s1719.trans w.1).tsm _ _ hS5) (fun i z H20 hz w => ?_) (fun H20 w => ?_)
      · obtain ⟨row, hri, hrm, tr⟩ := hA5.map_get hz
        have hil := (List.getElem?_eq_some_iff.mp hri).1
        have hrl := hfn.rlen
        exact ⟨rfl, _, row, rfl, tr.mono (s1719.trans w.1).tsm, fun H' s' => PvX.step nd w (by omega) s' (by rw [List.getElem?_map, List.getElem?_map, hri]; rfl)⟩
      have eD : H20 Dd = some (.lst ((fn.rows.map fun r => (r.parts.length : Int)).map V.int)) := by
        refine PvX.done (S := H19) ?_
        have el : ((fn.rows.map fun r => (r.parts.length : Int)).map V.int).length = xs5.length := by rw [List.length_map, List.length_map, hA5.map_len]
        rw [el]
        exact w
      refine ⟨Dd, _, rfl, .of eD, ?_⟩
      have s1620 := (s17.trans s1719).trans w.1
      have s620 := s616.trans s1620
      clear w
      -- the places of this function
      refine ⟨_, rfl, aP, rfl, ⟨_, s620.tsm _ _ hSP⟩, fun Dq nq => ?_⟩
      refine walkT (K := K) (a := aP) (xs := xsP) (fun i H' => Same H20 H' ∧ ∃ zs : List V, H' Dq = some (.lst zs) ∧ zs.length = ((p.places.take i).filter fun x => decide (x.nm = fn.nm)).length) ⟨same_upd nq, [], upd_same, rfl⟩ (fun i H' _ w => (s620.trans w.1).tsm _ _ hSP) (fun i z H21 hz w => ?_) (fun H21 w => ?_)
      · obtain ⟨s21, zs', ez', hzl'⟩ := w
        obtain ⟨pl, hpl, hplm, tpl⟩ := hAP.map_get hz
        obtain ⟨b, rfl, hSb⟩ := Pl.inv tpl
        have hple := pw.places_le
        have hfl : ((p.places.take i).filter fun x => decide (x.nm = fn.nm)).length ≤ p.places.length := Nat.le_trans (List.length_filter_le _ _) (by rw [List.length_take]; exact Nat.min_le_right _ _)
        refine ⟨rfl, _, rfl, b, _, 0, _, rfl, rfl, (s620.trans s21).tsm _ _ hSb, at0, _, rfl, rfl, _, rfl, ite2 (fun hc => ?_) (fun hc => ?_)⟩
        · have hnm : pl.nm = fn.nm := by
            have h1 : V.str pl.nm = V.str fn.nm := of_decide_eq_true hc
            injection h1
          refine ⟨_, rfl, zs', ez', Nat.lt_trans (by omega : _ < 1000000) big6, same_at nq s21, _, upd_same, ?_⟩
          rw [List.take_add_one, hpl, List.filter_append, List.length_append, List.length_append, hzl']
          simp [hnm]
        · have hnm : pl.nm ≠ fn.nm := fun z => hc (decide_eq_true (by show V.str pl.nm = V.str fn.nm; rw [z]))
          refine ⟨s21, zs', ez', ?_⟩
          rw [List.take_add_one, hpl, List.filter_append, List.length_append, hzl']
          simp [hnm]
      obtain ⟨s21, zs', ez', hzl'⟩ := w
      rw [hlP, List.take_length] at hzl'
      have hdue : V.int ((zs'.length : Nat) : Int) = V.int fn.due := by rw [hzl', pw.filter hfm]
      refine ⟨_, zs'.length, rfl, .inl ⟨_, .of ez', rfl⟩, _, rfl, rfl, _, rfl, iteF1 (b := !decide (V.int ((zs'.length : Nat) : Int) = V.int fn.due)) (by rw [decide_eq_true hdue]; rfl) ?_⟩
      exact ⟨s1620.trans s21, _, _, _, rfl⟩
    · obtain ⟨s17, y5, y6, y7, rfl⟩ := w
      exact ⟨s5.trans (s516.trans s17), _, _, _, _, _, _, rfl⟩
  · obtain ⟨s5, y2, y3, y4, y5, y6, y7, rfl⟩ := w
    -- jumps_of(()) == ()
    refine ⟨Nat.zero_le _, fun c nc => ?_⟩
    have e6 : (upd H5 c (.tup [])) c = some (.tup []) := upd_same
    generalize upd H5 c (.tup []) = H6 at e6
    refine ⟨_, [], [], rfl, .tup (.of e6) .nil, Sq.jrun (s := .nil) rfl (Nat.zero_le _), Nat.zero_le _, fun v H7 s7 tv => ⟨Nat.zero_le _, fun c2 nc2 => ?_⟩⟩
    have s8 : Same H7 (upd H7 c2 (.tup [])) := same_upd nc2
    refine ⟨.tuple [], .tuple [], (tv.mono s8.tsm).dp, .tup (.of upd_same) .nil, shaped_nil, shaped_nil, ?_⟩
    have e1 := eqv_self shaped_nil
    show Q (.bl (PyData.eqv (.tuple []) (.tuple []))) _
    rw [e1]
    exact q _
end
end B9

/-! What the top has written, gathered. -/
namespace B9
open PySem PySem.Spec PyProof.Rows L2

def BindOk (x : Str) (st : Stmt) (ps : List Str) : Prop := ∀ (kV doc pm : Value) (an : Option Addr) (cdv ct : Value) (us : List Value), us.length = ps.length → bindArgs (PySem.W.fnOf x x (defArgs st) (defBody st) (defScope st) .none kV doc pm an cdv ct) ⟨us, []⟩ = pure (ps.zip us)
theorem def_mk {K : PySem.W.Frag} {h : Heap} {mg : Str → Option Value} {x : Str} {st : Stmt} {ps : List Str} {f : Addr} {oc kV dc pm cd ct : Value} {od an : Option Addr} {sl : Array (Option Value)} (X : K.In h) (G : h.Ns mainGlobals mg) (b : BindOk x st ps)
    (a : PySem.W.nsIn K mainGlobals x = some (some (.ref f))) (l : K.lookup f = some ⟨oc, od, .func (PySem.W.fnOf x x (defArgs st) (defBody st) (defScope st) .none kV dc pm an cd ct), sl⟩) (c : PySem.W.codeIn K cd x = true) (k : PySem.W.keepIn K (.ref f) = true) : DefAt K mg x st ps := by
  have F := fun_mk (st := st) l c k
  exact ⟨f, _, F, F.binds (ps := ps) b, PySem.W.mg_of X G a⟩
theorem tup_mk {K : PySem.W.Frag} {t : Addr} {od : Option Addr} {its : Array Value} {n : Nat} {sl : Array (Option Value)} {xs : List V} (l : K.lookup t = some ⟨.type "tuple", od, .seq its n, sl⟩) (z : its.size ≤ 3) (v : Vals xs its.toList) : TupK K t xs :=
  ⟨_, its, n, l, rfl, rfl, Nat.le_trans z (small3 (by decide)), v⟩
theorem vals0 : Vals [] (#[] : Array Value).toList := .nil
theorem vals1r {f : Addr} : Vals [.ref f] (#[.ref f] : Array Value).toList := .cons rfl .nil
theorem vals2r {f g : Addr} : Vals [.ref f, .ref g] (#[.ref f, .ref g] : Array Value).toList := .cons rfl (.cons rfl .nil)
theorem vals3r {f g k : Addr} : Vals [.ref f, .ref g, .ref k] (#[.ref f, .ref g, .ref k] : Array Value).toList := .cons rfl (.cons rfl (.cons rfl .nil))
theorem letters_mk {K : PySem.W.Frag} {h : Heap} {mg : Str → Option Value} {t : Tok} (X : K.In h) (G : h.Ns mainGlobals mg) (e : PySem.W.nsIn K mainGlobals "LETTERS" = some (some (.str "abcdefghijklmnopqrstuvwxyz" t))) : ∃ t, mg "LETTERS" = some (.str letters t) := ⟨t, PySem.W.mg_of X G e⟩
theorem long_mk {K : PySem.W.Frag} {h : Heap} {mg : Str → Option Value} {t : Tok} (X : K.In h) (G : h.Ns mainGlobals mg) (e : PySem.W.nsIn K mainGlobals "LONGEST_NAME" = some (some (.int 8 t))) : ∃ t, mg "LONGEST_NAME" = some (.int 8 t) := ⟨t, PySem.W.mg_of X G e⟩
theorem rshapes_mk {K : PySem.W.Frag} {w : World} {h : Heap} {mg : Str → Option Value} {d f g q : Addr} {es : Array DictEntry} {n : Nat} (X : K.In h) (G : h.Ns mainGlobals mg) (s : PySem.W.nsIn K mainGlobals "ROW_SHAPES" = some (some (.ref d)))
    (l : K.lookup d = some ⟨.type "dict", none, .dict es n, #[]⟩) (k : PySem.W.KeysLit w.params es.toList) (o : (d == sysModules) = false) (e1 : PySem.W.nsIn K mainGlobals "is_expression" = some (some (.ref f))) (e2 : PySem.W.nsIn K mainGlobals "is_name" = some (some (.ref g))) (e3 : PySem.W.nsIn K mainGlobals "are_expressions" = some (some (.ref q)))
    (i0 : InD K w d "set" [.ref g, .ref f]) (i1 : InD K w d "if" [.ref f]) (i2 : InD K w d "else" []) (i3 : InD K w d "while" [.ref f]) (i4 : InD K w d "end" []) (i5 : InD K w d "call" [.ref g, .ref g, .ref q]) (i6 : InD K w d "return" [.ref f]) : ∃ d es n f g h, mg "ROW_SHAPES" = some (.ref d) ∧ KDict K w d es n ∧ mg "is_expression" = some (.ref f) ∧ mg "is_name" = some (.ref g) ∧ mg "are_expressions" = some (.ref h) ∧
    InD K w d "set" [.ref g, .ref f] ∧ InD K w d "if" [.ref f] ∧ InD K w d "else" [] ∧ InD K w d "while" [.ref f] ∧ InD K w d "end" [] ∧ InD K w d "call" [.ref g, .ref g, .ref h] ∧ InD K w d "return" [.ref f] :=
  ⟨d, es, n, f, g, q, PySem.W.mg_of X G s, ⟨l, k, o⟩, PySem.W.mg_of X G e1, PySem.W.mg_of X G e2, PySem.W.mg_of X G e3, i0, i1, i2, i3, i4, i5, i6⟩
theorem shapes_mk {K : PySem.W.Frag} {w : World} {h : Heap} {mg : Str → Option Value} {d f : Addr} {es : Array DictEntry} {n : Nat} (X : K.In h) (G : h.Ns mainGlobals mg) (s : PySem.W.nsIn K mainGlobals "SHAPES" = some (some (.ref d)))
    (l : K.lookup d = some ⟨.type "dict", none, .dict es n, #[]⟩) (k : PySem.W.KeysLit w.params es.toList) (o : (d == sysModules) = false) (e1 : PySem.W.nsIn K mainGlobals "is_expression" = some (some (.ref f)))
    (a1 : ∀ x ∈ unW, InD K w d x [.ref f]) (a2 : ∀ x ∈ biW, InD K w d x [.ref f, .ref f]) (a3 : InD K w d "if" [.ref f, .ref f, .ref f]) :
    ∃ d es n f, mg "SHAPES" = some (.ref d) ∧ KDict K w d es n ∧ mg "is_expression" = some (.ref f) ∧ (∀ x ∈ unW, InD K w d x [.ref f]) ∧ (∀ x ∈ biW, InD K w d x [.ref f, .ref f]) ∧ InD K w d "if" [.ref f, .ref f, .ref f] :=
  ⟨d, es, n, f, PySem.W.mg_of X G s, ⟨l, k, o⟩, PySem.W.mg_of X G e1, a1, a2, a3⟩
theorem ind_mk {K : PySem.W.Frag} {w : World} {d t : Addr} {x : Str} {od : Option Addr} {its : Array Value} {n : Nat} {sl : Array (Option Value)} {xs : List V} (a : PySem.W.nsIn K d x = some (some (.ref t))) (l : K.lookup t = some ⟨.type "tuple", od, .seq its n, sl⟩) (z : its.size ≤ 3) (v : Vals xs its.toList) : InD K w d x xs :=
  ⟨t, a, tup_mk l z v⟩
theorem un_in {K : PySem.W.Frag} {w : World} {d f : Addr} (h1 : InD K w d "not" [.ref f]) (h2 : InD K w d "neg" [.ref f]) : ∀ x ∈ unW, InD K w d x [.ref f] := by
  intro x hx
  simp only [unW, List.mem_cons, List.not_mem_nil, or_false] at hx
  rcases hx with rfl | rfl
  · exact h1
  · exact h2
theorem bi_in {K : PySem.W.Frag} {w : World} {d f : Addr} (h0 : InD K w d "+" [.ref f, .ref f]) (h1 : InD K w d "-" [.ref f, .ref f]) (h2 : InD K w d "*" [.ref f, .ref f]) (h3 : InD K w d "div" [.ref f, .ref f]) (h4 : InD K w d "mod" [.ref f, .ref f]) (h5 : InD K w d "least" [.ref f, .ref f]) (h6 : InD K w d "most" [.ref f, .ref f]) (h7 : InD K w d "=" [.ref f, .ref f]) (h8 : InD K w d "<" [.ref f, .ref f]) (h9 : InD K w d "<=" [.ref f, .ref f]) (h10 : InD K w d "and" [.ref f, .ref f]) (h11 : InD K w d "or" [.ref f, .ref f]) : ∀ x ∈ biW, InD K w d x [.ref f, .ref f] := by
  intro x hx
  simp only [biW, List.mem_cons, List.not_mem_nil, or_false] at hx
  rcases hx with rfl | rfl | rfl | rfl | rfl | rfl | rfl | rfl | rfl | rfl | rfl | rfl
  · exact h0
  · exact h1
  · exact h2
  · exact h3
  · exact h4
  · exact h5
  · exact h6
  · exact h7
  · exact h8
  · exact h9
  · exact h10
  · exact h11
theorem bd_is_integer : BindOk "is_integer" s_is_integer ["thing"] := fun _ _ _ _ _ _ us hl => match us, hl with | [_], _ => rfl
theorem bd_is_number : BindOk "is_number" s_is_number ["thing"] := fun _ _ _ _ _ _ us hl => match us, hl with | [_], _ => rfl
theorem bd_is_name : BindOk "is_name" s_is_name ["thing"] := fun _ _ _ _ _ _ us hl => match us, hl with | [_], _ => rfl
theorem bd_is_tuple_with : BindOk "is_tuple_with" s_is_tuple_with ["thing", "checks"] := fun _ _ _ _ _ _ us hl => match us, hl with | [_, _], _ => rfl
theorem bd_is_tuple_of : BindOk "is_tuple_of" s_is_tuple_of ["thing", "check"] := fun _ _ _ _ _ _ us hl => match us, hl with | [_, _], _ => rfl
theorem bd_has_variable_shape : BindOk "has_variable_shape" s_has_variable_shape ["thing"] := fun _ _ _ _ _ _ us hl => match us, hl with | [_], _ => rfl
theorem bd_is_worded : BindOk "is_worded" s_is_worded ["thing"] := fun _ _ _ _ _ _ us hl => match us, hl with | [_], _ => rfl
theorem bd_is_expression : BindOk "is_expression" s_is_expression ["thing"] := fun _ _ _ _ _ _ us hl => match us, hl with | [_], _ => rfl
theorem bd_are_expressions : BindOk "are_expressions" s_are_expressions ["thing"] := fun _ _ _ _ _ _ us hl => match us, hl with | [_], _ => rfl
theorem bd_is_row : BindOk "is_row" s_is_row ["thing"] := fun _ _ _ _ _ _ us hl => match us, hl with | [_], _ => rfl
theorem bd_names_in : BindOk "names_in" s_names_in ["e"] := fun _ _ _ _ _ _ us hl => match us, hl with | [_], _ => rfl
theorem bd_fits : BindOk "fits" s_fits ["names", "thing"] := fun _ _ _ _ _ _ us hl => match us, hl with | [_, _], _ => rfl
theorem bd_require : BindOk "require" s_require ["condition", "word", "at"] := fun _ _ _ _ _ _ us hl => match us, hl with | [_, _, _], _ => rfl
theorem bd_are_variable_shapes : BindOk "are_variable_shapes" s_are_variable_shapes ["thing"] := fun _ _ _ _ _ _ us hl => match us, hl with | [_], _ => rfl
theorem bd_are_rows : BindOk "are_rows" s_are_rows ["thing"] := fun _ _ _ _ _ _ us hl => match us, hl with | [_], _ => rfl
theorem bd_is_function_shape : BindOk "is_function_shape" s_is_function_shape ["thing"] := fun _ _ _ _ _ _ us hl => match us, hl with | [_], _ => rfl
theorem bd_are_function_shapes : BindOk "are_function_shapes" s_are_function_shapes ["thing"] := fun _ _ _ _ _ _ us hl => match us, hl with | [_], _ => rfl
theorem bd_check_variables : BindOk "check_variables" s_check_variables ["k", "function"] := fun _ _ _ _ _ _ us hl => match us, hl with | [_, _], _ => rfl
theorem bd_row_fits : BindOk "row_fits" s_row_fits ["row", "names", "counts"] := fun _ _ _ _ _ _ us hl => match us, hl with | [_, _, _], _ => rfl
theorem bd_check_block : BindOk "check_block" s_check_block ["row", "r", "opened", "at"] := fun _ _ _ _ _ _ us hl => match us, hl with | [_, _, _, _], _ => rfl
theorem bd_check_rows : BindOk "check_rows" s_check_rows ["k", "function", "counts"] := fun _ _ _ _ _ _ us hl => match us, hl with | [_, _, _], _ => rfl
theorem bd_places_in_row : BindOk "places_in_row" s_places_in_row ["row"] := fun _ _ _ _ _ _ us hl => match us, hl with | [_], _ => rfl
theorem bd_lets_program : BindOk "lets_program" s_lets_program ["thing"] := fun _ _ _ _ _ _ us hl => match us, hl with | [_], _ => rfl
theorem bd_function_of : BindOk "function_of" s_function_of ["program", "name"] := fun _ _ _ _ _ _ us hl => match us, hl with | [_, _], _ => rfl
theorem bd_places_of_function : BindOk "places_of_function" s_places_of_function ["function"] := fun _ _ _ _ _ _ us hl => match us, hl with | [_], _ => rfl
theorem bd_places_of : BindOk "places_of" s_places_of ["program"] := fun _ _ _ _ _ _ us hl => match us, hl with | [_], _ => rfl
theorem bd_is_place : BindOk "is_place" s_is_place ["program", "thing"] := fun _ _ _ _ _ _ us hl => match us, hl with | [_, _], _ => rfl
theorem bd_function_at : BindOk "function_at" s_function_at ["program", "place"] := fun _ _ _ _ _ _ us hl => match us, hl with | [_, _], _ => rfl
theorem bd_names_at : BindOk "names_at" s_names_at ["program", "place"] := fun _ _ _ _ _ _ us hl => match us, hl with | [_, _], _ => rfl
theorem bd_range_of : BindOk "range_of" s_range_of ["program", "place"] := fun _ _ _ _ _ _ us hl => match us, hl with | [_, _], _ => rfl
theorem bd_expression_at : BindOk "expression_at" s_expression_at ["program", "place"] := fun _ _ _ _ _ _ us hl => match us, hl with | [_, _], _ => rfl
theorem bd_jumps_of : BindOk "jumps_of" s_jumps_of ["rows"] := fun _ _ _ _ _ _ us hl => match us, hl with | [_], _ => rfl
theorem bd__law_feed : BindOk "_law_feed" s__law_feed ["_law_script"] := fun _ _ _ _ _ _ us hl => match us, hl with | [_], _ => rfl
theorem bd__law_draw : BindOk "_law_draw" s__law_draw ["_law_feed_here", "_law_many"] := fun _ _ _ _ _ _ us hl => match us, hl with | [_, _], _ => rfl
theorem bd__law_sizes : BindOk "_law_sizes" s__law_sizes [] := fun _ _ _ _ _ _ us hl => match us, hl with | [], _ => rfl
theorem bd__law_parts : BindOk "_law_parts" s__law_parts ["_law_row"] := fun _ _ _ _ _ _ us hl => match us, hl with | [_], _ => rfl
theorem bd__law_leaf : BindOk "_law_leaf" s__law_leaf ["_law_feed_here", "_law_names"] := fun _ _ _ _ _ _ us hl => match us, hl with | [_, _], _ => rfl
theorem bd__law_formula : BindOk "_law_formula" s__law_formula ["_law_feed_here", "_law_names", "_law_deep"] := fun _ _ _ _ _ _ us hl => match us, hl with | [_, _, _], _ => rfl
theorem bd__law_variables : BindOk "_law_variables" s__law_variables ["_law_feed_here"] := fun _ _ _ _ _ _ us hl => match us, hl with | [_], _ => rfl
theorem bd__law_heads : BindOk "_law_heads" s__law_heads ["_law_feed_here"] := fun _ _ _ _ _ _ us hl => match us, hl with | [_], _ => rfl
theorem bd__law_plain_row : BindOk "_law_plain_row" s__law_plain_row ["_law_feed_here", "_law_names", "_law_heads_here", "_law_way"] := fun _ _ _ _ _ _ us hl => match us, hl with | [_, _, _, _], _ => rfl
theorem bd__law_block : BindOk "_law_block" s__law_block ["_law_feed_here", "_law_names", "_law_heads_here", "_law_deep", "_law_left"] := fun _ _ _ _ _ _ us hl => match us, hl with | [_, _, _, _, _], _ => rfl
theorem bd__law_program : BindOk "_law_program" s__law_program ["_law_feed_here"] := fun _ _ _ _ _ _ us hl => match us, hl with | [_], _ => rfl
theorem bd__law_first_program : BindOk "_law_first_program" s__law_first_program [] := fun _ _ _ _ _ _ us hl => match us, hl with | [], _ => rfl
theorem bd__law_word_program : BindOk "_law_word_program" s__law_word_program [] := fun _ _ _ _ _ _ us hl => match us, hl with | [], _ => rfl
theorem bd__law_samples : BindOk "_law_samples" s__law_samples [] := fun _ _ _ _ _ _ us hl => match us, hl with | [], _ => rfl
theorem bd__law_place_right : BindOk "_law_place_right" s__law_place_right ["_law_program_here", "_law_place"] := fun _ _ _ _ _ _ us hl => match us, hl with | [_, _], _ => rfl
theorem bd__law_jumps_right : BindOk "_law_jumps_right" s__law_jumps_right ["_law_rows"] := fun _ _ _ _ _ _ us hl => match us, hl with | [_], _ => rfl
theorem bd__law_ends_right : BindOk "_law_ends_right" s__law_ends_right ["_law_rows", "_law_jumps", "_law_r"] := fun _ _ _ _ _ _ us hl => match us, hl with | [_, _, _], _ => rfl
theorem bd__law_inside_right : BindOk "_law_inside_right" s__law_inside_right ["_law_rows"] := fun _ _ _ _ _ _ us hl => match us, hl with | [_], _ => rfl
theorem bd_law : BindOk "law" s_law ["_law_script"] := fun _ _ _ _ _ _ us hl => match us, hl with | [_], _ => rfl
/-- the law's own promise, from what the top has left -/
theorem law_mk {l : PySem.W.OpenLaw} {w : World} {K : PySem.W.Frag} {mg : Str → Option Value} (D : Dfs w K mg) {fa : Addr} (hfa : mg "law" = some (.ref fa)) :
    ∃ fd : FuncData, (∀ (s : Shared) (v : Value), BindsTo s fd ⟨[v], []⟩ [("_law_script", v)]) ∧ ∀ base : Heap, K.In base → base.Ns mainGlobals mg → FnOk l.prog w K mg base CX0 33 fa fd ["_law_script"] (spLaw K) := by
  obtain ⟨f, fd, F, b, g⟩ := D.f_law
  rw [g] at hfa
  cases hfa
  obtain ⟨oc, od, kV, doc, pm, an, cdv, ct, osl, rfl, lk, hcd⟩ := id F.ex
  refine ⟨_, fun s v => .of_eq rfl, fun base _ _ => F.ok sc_law (fun vs H Q E h => ?_) fun cdv A outer s H vs Q E hr hs => law_body D _ cdv A outer s H vs Q E hr hs⟩
  obtain ⟨sa, ns, rfl, _⟩ := h
  rfl
theorem law_mk2 {l : PySem.W.OpenLaw} {w : World} {K : PySem.W.Frag} {h : Heap} {mg : Str → Option Value} {fa : Addr} (X : K.In h) (hfa : mg "law" = some (.ref fa)) (D : Dfs w K mg) :
    ∃ fd : FuncData, (∀ (s : Shared) (v : Value), BindsTo s fd ⟨[v], []⟩ [("_law_script", v)]) ∧ ∀ base : Heap, K.In base → base.Ns mainGlobals mg → FnOk l.prog w K mg base CX0 33 fa fd ["_law_script"] (spLaw K) := law_mk D hfa
end B9

open PySem PySem.W PyProof.Rows
set_option maxRecDepth 100000 in
set_option maxHeartbeats 0 in
theorem PySem.Challenge.cw_blameplaces_k09_whole_places_and_jumps_holds : PySem.Challenge.rw_blameplaces_k09_whole_places_and_jumps.Holds := by
  w_on; o_law; k_head; (case hw => w_witness2)
  k_fill
  refine L2.walk_of (l := PySem.Challenge.rw_blameplaces_k09_whole_places_and_jumps) (n := 63) (k := 33) (x := "_law_script") (CX := fun _ => L2.CX0) (sp := fun w => B9.spLaw _) rfl (by decide) rfl ⟨rfl, by decide, by decide⟩ (fun w h Y => PySem.W.kIn_of Y) ?F (fun _ _ a ns hl _ hS => ⟨a, ns, rfl, hS, hl, fun _ => rfl⟩) (fun _ _ _ _ _ h => h)
  case F =>
    intro w mg fa h KX G hmg0
    have hmg : mg ("law" : Str) = some (.ref fa) := hmg0
    clear hmg0
    refine' B9.law_mk2 KX hmg ⟨B9.def_mk KX G B9.bd_is_integer ?a0 ?l0 ?c0 ?k0, B9.def_mk KX G B9.bd_is_number ?a1 ?l1 ?c1 ?k1, B9.def_mk KX G B9.bd_is_name ?a2 ?l2 ?c2 ?k2, B9.def_mk KX G B9.bd_is_tuple_with ?a3 ?l3 ?c3 ?k3, B9.def_mk KX G B9.bd_is_tuple_of ?a4 ?l4 ?c4 ?k4, B9.def_mk KX G B9.bd_has_variable_shape ?a5 ?l5 ?c5 ?k5, B9.def_mk KX G B9.bd_is_worded ?a6 ?l6 ?c6 ?k6, B9.def_mk KX G B9.bd_is_expression ?a7 ?l7 ?c7 ?k7, B9.def_mk KX G B9.bd_are_expressions ?a8 ?l8 ?c8 ?k8, B9.def_mk KX G B9.bd_is_row ?a9 ?l9 ?c9 ?k9, B9.def_mk KX G B9.bd_names_in ?a10 ?l10 ?c10 ?k10, B9.def_mk KX G B9.bd_fits ?a11 ?l11 ?c11 ?k11, B9.def_mk KX G B9.bd_require ?a12 ?l12 ?c12 ?k12, B9.def_mk KX G B9.bd_are_variable_shapes ?a13 ?l13 ?c13 ?k13, B9.def_mk KX G B9.bd_are_rows ?a14 ?l14 ?c14 ?k14, B9.def_mk KX G B9.bd_is_function_shape ?a15 ?l15 ?c15 ?k15, B9.def_mk KX G B9.bd_are_function_shapes ?a16 ?l16 ?c16 ?k16, B9.def_mk KX G B9.bd_check_variables ?a17 ?l17 ?c17 ?k17, B9.def_mk KX G B9.bd_row_fits ?a18 ?l18 ?c18 ?k18, B9.def_mk KX G B9.bd_check_block ?a19 ?l19 ?c19 ?k19, B9.def_mk KX G B9.bd_check_rows ?a20 ?l20 ?c20 ?k20, B9.def_mk KX G B9.bd_places_in_row ?a21 ?l21 ?c21 ?k21, B9.def_mk KX G B9.bd_lets_program ?a22 ?l22 ?c22 ?k22, B9.def_mk KX G B9.bd_function_of ?a23 ?l23 ?c23 ?k23, B9.def_mk KX G B9.bd_places_of_function ?a24 ?l24 ?c24 ?k24, B9.def_mk KX G B9.bd_places_of ?a25 ?l25 ?c25 ?k25, B9.def_mk KX G B9.bd_is_place ?a26 ?l26 ?c26 ?k26, B9.def_mk KX G B9.bd_function_at ?a27 ?l27 ?c27 ?k27, B9.def_mk KX G B9.bd_names_at ?a28 ?l28 ?c28 ?k28, B9.def_mk KX G B9.bd_range_of ?a29 ?l29 ?c29 ?k29, B9.def_mk KX G B9.bd_expression_at ?a30 ?l30 ?c30 ?k30, B9.def_mk KX G B9.bd_jumps_of ?a31 ?l31 ?c31 ?k31, B9.def_mk KX G B9.bd__law_feed ?a32 ?l32 ?c32 ?k32, B9.def_mk KX G B9.bd__law_draw ?a33 ?l33 ?c33 ?k33, B9.def_mk KX G B9.bd__law_sizes ?a34 ?l34 ?c34 ?k34, B9.def_mk KX G B9.bd__law_parts ?a35 ?l35 ?c35 ?k35, B9.def_mk KX G B9.bd__law_leaf ?a36 ?l36 ?c36 ?k36, B9.def_mk KX G B9.bd__law_formula ?a37 ?l37 ?c37 ?k37, B9.def_mk KX G B9.bd__law_variables ?a38 ?l38 ?c38 ?k38, B9.def_mk KX G B9.bd__law_heads ?a39 ?l39 ?c39 ?k39, B9.def_mk KX G B9.bd__law_plain_row ?a40 ?l40 ?c40 ?k40, B9.def_mk KX G B9.bd__law_block ?a41 ?l41 ?c41 ?k41, B9.def_mk KX G B9.bd__law_program ?a42 ?l42 ?c42 ?k42, B9.def_mk KX G B9.bd__law_first_program ?a43 ?l43 ?c43 ?k43, B9.def_mk KX G B9.bd__law_word_program ?a44 ?l44 ?c44 ?k44, B9.def_mk KX G B9.bd__law_samples ?a45 ?l45 ?c45 ?k45, B9.def_mk KX G B9.bd__law_place_right ?a46 ?l46 ?c46 ?k46, B9.def_mk KX G B9.bd__law_jumps_right ?a47 ?l47 ?c47 ?k47, B9.def_mk KX G B9.bd__law_ends_right ?a48 ?l48 ?c48 ?k48, B9.def_mk KX G B9.bd__law_inside_right ?a49 ?l49 ?c49 ?k49, B9.def_mk KX G B9.bd_law ?a50 ?l50 ?c50 ?k50, PySem.W.mg_none_of KX G ?b0, PySem.W.mg_none_of KX G ?b1, PySem.W.mg_none_of KX G ?b2, PySem.W.mg_none_of KX G ?b3, PySem.W.mg_none_of KX G ?b4, PySem.W.mg_none_of KX G ?b5, PySem.W.mg_none_of KX G ?b6, PySem.W.mg_none_of KX G ?b7, PySem.W.mg_none_of KX G ?b8, PySem.W.mg_none_of KX G ?b9, PySem.W.mg_none_of KX G ?b10, PySem.W.mg_none_of KX G ?b11, PySem.W.mg_none_of KX G ?b12, PySem.W.mg_none_of KX G ?b13, PySem.W.mg_none_of KX G ?b14, B9.letters_mk KX G ?e1, B9.long_mk KX G ?e2, B9.shapes_mk KX G ?ss ?sl ?sk ?so ?se (B9.un_in (B9.ind_mk ?sn0 ?st0 ?sz0 ?sv0) (B9.ind_mk ?sn1 ?st1 ?sz1 ?sv1)) (B9.bi_in (B9.ind_mk ?sn2 ?st2 ?sz2 ?sv2) (B9.ind_mk ?sn3 ?st3 ?sz3 ?sv3) (B9.ind_mk ?sn4 ?st4 ?sz4 ?sv4) (B9.ind_mk ?sn5 ?st5 ?sz5 ?sv5) (B9.ind_mk ?sn6 ?st6 ?sz6 ?sv6) (B9.ind_mk ?sn7 ?st7 ?sz7 ?sv7) (B9.ind_mk ?sn8 ?st8 ?sz8 ?sv8) (B9.ind_mk ?sn9 ?st9 ?sz9 ?sv9) (B9.ind_mk ?sn10 ?st10 ?sz10 ?sv10) (B9.ind_mk ?sn11 ?st11 ?sz11 ?sv11) (B9.ind_mk ?sn12 ?st12 ?sz12 ?sv12) (B9.ind_mk ?sn13 ?st13 ?sz13 ?sv13)) (B9.ind_mk ?sn14 ?st14 ?sz14 ?sv14), B9.rshapes_mk KX G ?ws ?wl ?wk ?wo ?we ?wf ?wg (B9.ind_mk ?wn0 ?wt0 ?wz0 ?wv0) (B9.ind_mk ?wn1 ?wt1 ?wz1 ?wv1) (B9.ind_mk ?wn2 ?wt2 ?wz2 ?wv2) (B9.ind_mk ?wn3 ?wt3 ?wz3 ?wv3) (B9.ind_mk ?wn4 ?wt4 ?wz4 ?wv4) (B9.ind_mk ?wn5 ?wt5 ?wz5 ?wv5) (B9.ind_mk ?wn6 ?wt6 ?wz6 ?wv6)⟩
    (case a0 => k_is); (case l0 => k_is); (case c0 => k_is); (case k0 => k_is)
    (case a1 => k_is); (case l1 => k_is); (case c1 => k_is); (case k1 => k_is)
    (case a2 => k_is); (case l2 => k_is); (case c2 => k_is); (case k2 => k_is)
    (case a3 => k_is); (case l3 => k_is); (case c3 => k_is); (case k3 => k_is)
    (case a4 => k_is); (case l4 => k_is); (case c4 => k_is); (case k4 => k_is)
    (case a5 => k_is); (case l5 => k_is); (case c5 => k_is); (case k5 => k_is)
    (case a6 => k_is); (case l6 => k_is); (case c6 => k_is); (case k6 => k_is)
    (case a7 => k_is); (case l7 => k_is); (case c7 => k_is); (case k7 => k_is)
    (case a8 => k_is); (case l8 => k_is); (case c8 => k_is); (case k8 => k_is)
    (case a9 => k_is); (case l9 => k_is); (case c9 => k_is); (case k9 => k_is)
    (case a10 => k_is); (case l10 => k_is); (case c10 => k_is); (case k10 => k_is)
    (case a11 => k_is); (case l11 => k_is); (case c11 => k_is); (case k11 => k_is)
    (case a12 => k_is); (case l12 => k_is); (case c12 => k_is); (case k12 => k_is)
    (case a13 => k_is); (case l13 => k_is); (case c13 => k_is); (case k13 => k_is)
    (case a14 => k_is); (case l14 => k_is); (case c14 => k_is); (case k14 => k_is)
    (case a15 => k_is); (case l15 => k_is); (case c15 => k_is); (case k15 => k_is)
    (case a16 => k_is); (case l16 => k_is); (case c16 => k_is); (case k16 => k_is)
    (case a17 => k_is); (case l17 => k_is); (case c17 => k_is); (case k17 => k_is)
    (case a18 => k_is); (case l18 => k_is); (case c18 => k_is); (case k18 => k_is)
    (case a19 => k_is); (case l19 => k_is); (case c19 => k_is); (case k19 => k_is)
    (case a20 => k_is); (case l20 => k_is); (case c20 => k_is); (case k20 => k_is)
    (case a21 => k_is); (case l21 => k_is); (case c21 => k_is); (case k21 => k_is)
    (case a22 => k_is); (case l22 => k_is); (case c22 => k_is); (case k22 => k_is)
    (case a23 => k_is); (case l23 => k_is); (case c23 => k_is); (case k23 => k_is)
    (case a24 => k_is); (case l24 => k_is); (case c24 => k_is); (case k24 => k_is)
    (case a25 => k_is); (case l25 => k_is); (case c25 => k_is); (case k25 => k_is)
    (case a26 => k_is); (case l26 => k_is); (case c26 => k_is); (case k26 => k_is)
    (case a27 => k_is); (case l27 => k_is); (case c27 => k_is); (case k27 => k_is)
    (case a28 => k_is); (case l28 => k_is); (case c28 => k_is); (case k28 => k_is)
    (case a29 => k_is); (case l29 => k_is); (case c29 => k_is); (case k29 => k_is)
    (case a30 => k_is); (case l30 => k_is); (case c30 => k_is); (case k30 => k_is)
    (case a31 => k_is); (case l31 => k_is); (case c31 => k_is); (case k31 => k_is)
    (case a32 => k_is); (case l32 => k_is); (case c32 => k_is); (case k32 => k_is)
    (case a33 => k_is); (case l33 => k_is); (case c33 => k_is); (case k33 => k_is)
    (case a34 => k_is); (case l34 => k_is); (case c34 => k_is); (case k34 => k_is)
    (case a35 => k_is); (case l35 => k_is); (case c35 => k_is); (case k35 => k_is)
    (case a36 => k_is); (case l36 => k_is); (case c36 => k_is); (case k36 => k_is)
    (case a37 => k_is); (case l37 => k_is); (case c37 => k_is); (case k37 => k_is)
    (case a38 => k_is); (case l38 => k_is); (case c38 => k_is); (case k38 => k_is)
    (case a39 => k_is); (case l39 => k_is); (case c39 => k_is); (case k39 => k_is)
    (case a40 => k_is); (case l40 => k_is); (case c40 => k_is); (case k40 => k_is)
    (case a41 => k_is); (case l41 => k_is); (case c41 => k_is); (case k41 => k_is)
    (case a42 => k_is); (case l42 => k_is); (case c42 => k_is); (case k42 => k_is)
    (case a43 => k_is); (case l43 => k_is); (case c43 => k_is); (case k43 => k_is)
    (case a44 => k_is); (case l44 => k_is); (case c44 => k_is); (case k44 => k_is)
    (case a45 => k_is); (case l45 => k_is); (case c45 => k_is); (case k45 => k_is)
    (case a46 => k_is); (case l46 => k_is); (case c46 => k_is); (case k46 => k_is)
    (case a47 => k_is); (case l47 => k_is); (case c47 => k_is); (case k47 => k_is)
    (case a48 => k_is); (case l48 => k_is); (case c48 => k_is); (case k48 => k_is)
    (case a49 => k_is); (case l49 => k_is); (case c49 => k_is); (case k49 => k_is)
    (case a50 => k_is); (case l50 => k_is); (case c50 => k_is); (case k50 => k_is)
    (case b0 => k_is)
    (case b1 => k_is)
    (case b2 => k_is)
    (case b3 => k_is)
    (case b4 => k_is)
    (case b5 => k_is)
    (case b6 => k_is)
    (case b7 => k_is)
    (case b8 => k_is)
    (case b9 => k_is)
    (case b10 => k_is)
    (case b11 => k_is)
    (case b12 => k_is)
    (case b13 => k_is)
    (case b14 => k_is)
    (case e1 => k_is)
    (case e2 => k_is)
    (case ss => k_is); (case se => k_is); (case sl => k_is); (case sk => k_keys); (case so => decide)
    (case sn0 => k_is); (case st0 => k_is); (case sz0 => decide); (case sv0 => exact B9.vals1r)
    (case sn1 => k_is); (case st1 => k_is); (case sz1 => decide); (case sv1 => exact B9.vals1r)
    (case sn2 => k_is); (case st2 => k_is); (case sz2 => decide); (case sv2 => exact B9.vals2r)
    (case sn3 => k_is); (case st3 => k_is); (case sz3 => decide); (case sv3 => exact B9.vals2r)
    (case sn4 => k_is); (case st4 => k_is); (case sz4 => decide); (case sv4 => exact B9.vals2r)
    (case sn5 => k_is); (case st5 => k_is); (case sz5 => decide); (case sv5 => exact B9.vals2r)
    (case sn6 => k_is); (case st6 => k_is); (case sz6 => decide); (case sv6 => exact B9.vals2r)
    (case sn7 => k_is); (case st7 => k_is); (case sz7 => decide); (case sv7 => exact B9.vals2r)
    (case sn8 => k_is); (case st8 => k_is); (case sz8 => decide); (case sv8 => exact B9.vals2r)
    (case sn9 => k_is); (case st9 => k_is); (case sz9 => decide); (case sv9 => exact B9.vals2r)
    (case sn10 => k_is); (case st10 => k_is); (case sz10 => decide); (case sv10 => exact B9.vals2r)
    (case sn11 => k_is); (case st11 => k_is); (case sz11 => decide); (case sv11 => exact B9.vals2r)
    (case sn12 => k_is); (case st12 => k_is); (case sz12 => decide); (case sv12 => exact B9.vals2r)
    (case sn13 => k_is); (case st13 => k_is); (case sz13 => decide); (case sv13 => exact B9.vals2r)
    (case sn14 => k_is); (case st14 => k_is); (case sz14 => decide); (case sv14 => exact B9.vals3r)
    (case ws => k_is); (case we => k_is); (case wf => k_is); (case wg => k_is); (case wl => k_is); (case wk => k_keys); (case wo => decide)
    (case wn0 => k_is); (case wt0 => k_is); (case wz0 => decide); (case wv0 => exact B9.vals2r)
    (case wn1 => k_is); (case wt1 => k_is); (case wz1 => decide); (case wv1 => exact B9.vals1r)
    (case wn2 => k_is); (case wt2 => k_is); (case wz2 => decide); (case wv2 => exact B9.vals0)
    (case wn3 => k_is); (case wt3 => k_is); (case wz3 => decide); (case wv3 => exact B9.vals1r)
    (case wn4 => k_is); (case wt4 => k_is); (case wz4 => decide); (case wv4 => exact B9.vals0)
    (case wn5 => k_is); (case wt5 => k_is); (case wz5 => decide); (case wv5 => exact B9.vals3r)
    (case wn6 => k_is); (case wt6 => k_is); (case wz6 => decide); (case wv6 => exact B9.vals1r)
