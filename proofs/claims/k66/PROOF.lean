import PyProof.Rows.All
import Wide.All
import OpenK.AllK
import Wide.FinOn
import HandS.ForMost
import HandS.TupMul
import KE.GoesEnum
import HandS.Iter
import KE.KDictZip
import KE.GoesMore
import PyProof.ListNew
import HandS.Wide
import HandS.IsInst
import HandS.TupAny
import HandS.Flow
import HandS.Style
import HandS.Deep
import HandS.NoneIn
import HandS.WordsExc
import HandS.Defaults
import HandS.Rev
import HandS.Words
import HandS.HeadHook2
import KE.KStateDown
import Lean
import HandS.Base
import HandS.Call
import HandS.Ends
import HandS.More
import HandS.Head0
import HandS.Head1
import HandS.Head2
import HandS.HeadEnd
import HandS.HeadHook1
import PySem.Challenge.RW_takentickets_k66_whole_plans_carried
set_option Elab.async false
set_option linter.all false
set_option maxRecDepth 100000
set_option maxHeartbeats 4000000
namespace Tk
open PySem PySem.Spec PyProof.Rows L2
/-! ## tuple * int, also none and one -/
theorem tuple_mulOne (l : Addr) (items : Array Value) (n : Nat) (sl : Array (Option Value)) (u : Tok) (dd : Option Addr) :
    Meets (Builtin.«tuple.__mul__» ⟨[.ref l, .int 1 u], []⟩) (fun _ R s => s.heap.get? l = some { cls := .type "tuple", dict := dd, data := .seq items n, slots := sl } ∧ R (.ok (.ret (Value.ref l))) s) :=
  .of_wp fun prog w A R s h => by
    obtain ⟨hp, g, d, tk, os⟩ := s
    obtain ⟨hl, h⟩ := h
    have f1 := AutoSeq1.idx_int
    wp_walk using wpAny_loadPart' hl
    repeat (first
      | (refine wpAny_ite_false (by decide) ?_; wp_walk using wpAny_loadPart' hl)
      | (refine wpAny_ite_true (by simp) ?_; wp_walk using wpAny_loadPart' hl))
    all_goals first | exact ⟨_, rfl, h⟩ | skip
theorem tuple_mulNone (l : Addr) (items : Array Value) (n : Nat) (dd : Option Addr) (sl : Array (Option Value)) (x : Int) (u : Tok) (c0 : (decide (x < -(2 ^ 63)) || decide (x ≥ 2 ^ 63)) = false) (c1 : (items.isEmpty || x == 1) = false) (c2 : (decide (x ≤ 0) || items.isEmpty) = true) :
    Meets (Builtin.«tuple.__mul__» ⟨[.ref l, .int x u], []⟩) (fun _ R s => s.heap.get? l = some { cls := .type "tuple", dict := dd, data := .seq items n, slots := sl } ∧
      R (.ok (.ret (Value.ref s.heap.objs.size))) { s with heap := s.heap.push { cls := Value.type "tuple", data := Data.seq #[] }, toks := s.toks }) :=
  .of_wp fun prog w A R s h => by
    obtain ⟨hp, g, d, tk, os⟩ := s
    obtain ⟨hl, h⟩ := h
    have f1 := AutoSeq1.idx_int
    wp_walk using wpAny_loadPart' hl
    repeat (first
      | (refine wpAny_ite_false (decide_eq_false (by rw [c0]; exact Bool.false_ne_true)) ?_; wp_walk using wpAny_loadPart' hl)
      | (refine wpAny_ite_false (decide_eq_false (by rw [c1]; exact Bool.false_ne_true)) ?_; wp_walk using wpAny_loadPart' hl)
      | (refine wpAny_ite_true (decide_eq_true c2) ?_; wp_walk using wpAny_loadPart' hl))
    exact ⟨_, rfl, h⟩
end Tk

set_option Elab.async false
set_option linter.all false
set_option maxRecDepth 100000
set_option maxHeartbeats 4000000
namespace Tk
open PySem PySem.Spec PyProof.Rows L2
/-! ## enumerate(tuple) -/
theorem meets_enumerate_new1 {v : Value} {o : Obj} {H : Heap → Prop} (B : Begins v o H) :
    Meets (Builtin.«enumerate.__new__» ⟨[.type "enumerate", v], []⟩) (fun _ R s => H s.heap ∧
      R (.ok (.ret (.ref (s.heap.push o).objs.size))) { s with heap := (s.heap.push o).push { cls := .type "enumerate", data := .fields #[.none, .bool false, .ref s.heap.objs.size, rawInt 0, .none, .none] } }) :=
  .of_wp fun prog w A R s h => by
    obtain ⟨hp, g, d, tk, os⟩ := s; obtain ⟨h1, h⟩ := h
    have hsub := sub_enumerate
    have q1 : ∀ {A' : Around} {E : Value → Shared → Prop} {Q : Value → Shared → Prop}, Q (.ref hp.objs.size) ⟨hp.push o, g, d, tk, os⟩ → wpAny (model prog w) A' (pyIter v) Q E ⟨hp, g, d, tk, os⟩ :=
      fun q => B.iter prog w _ _ ⟨hp, g, d, tk, os⟩ _ h1 q
    wp_walk using q1
    refine wpAny_stack_any fun st => wpAny_pure ?_
    split
    · rename_i c _ _ _ _ _
      cases (c == Value.type "enumerate")
      · wp_walk using q1
        exact ⟨_, rfl, h⟩
      · wp_walk using q1
        exact ⟨_, rfl, h⟩
    · wp_walk using q1
      exact ⟨_, rfl, h⟩
theorem call_enumerate_1 {prog : Program} {w : World} {A : Around} {E : Value → Shared → Prop} {s : Shared} {v : Value} {o : Obj} {H : Heap → Prop} {Q : Value → Shared → Prop} (B : Begins v o H) (h1 : H s.heap)
    (h : ∀ h', IsEnum h' (s.heap.objs.size + 1) s.heap.objs.size 0 .none → h'.get? s.heap.objs.size = some o → h'.objs.size = s.heap.objs.size + 2 →
      (∀ b o, s.heap.get? b = some o → h'.get? b = some o) → Q (.ref (s.heap.objs.size + 1)) { s with heap := h' }) :
    wpAny (model prog w) A (call (.type "enumerate") [v]) Q E s := by
  refine callType_new F.called_enumerate (by decide) (F.typeCall_enumerate_1 _) (F.newCall_enumerate_1 _) (fun obj => F.args_object_init_2 obj _) F.entry_enumerate_new
    (meets_enumerate_new1 B) ⟨h1, ?_⟩
  have hz : (s.heap.push o).objs.size = s.heap.objs.size + 1 := Heap.size_push ..
  show _ ∧ _
  rw [hz]
  have he : IsEnum ((s.heap.push o).push { cls := .type "enumerate", data := .fields #[.none, .bool false, .ref s.heap.objs.size, rawInt 0, .none, .none] }) (s.heap.objs.size + 1) s.heap.objs.size 0 .none := by
    have := Heap.get?_push_size (s.heap.push o) (o := { cls := .type "enumerate", data := .fields #[.none, .bool false, .ref s.heap.objs.size, rawInt 0, .none, .none] }) rfl
    rw [hz] at this; exact this
  refine ⟨⟨_, he, rfl⟩, h _ he (Heap.get?_push_of_some _ (Heap.get?_push_size _ B.free)) (by rw [Heap.size_push, hz]) fun b o x => Heap.get?_push_of_some _ (Heap.get?_push_of_some _ x)⟩
/-- the tuple at a, each item in a new pair -/
def IteT (K : PySem.W.Frag) (a : Addr) (n : Nat) : It :=
  ⟨fun i H => i < n ∧ ∃ (xs : List V) (x : V), SqT K H a xs ∧ xs[i]? = some x, fun i H v H' => ∃ T x, v = .ref T ∧ H T = none ∧ H' = upd H T (.tup [.int (i : Nat), x]) ∧ ∀ xs, SqT K H a xs → xs[i]? = some x, fun i H => n ≤ i ∧ ∃ xs : List V, SqT K H a xs ∧ xs.length = n⟩
theorem turn_enumT {P : Program} {w : World} {K : PySem.W.Frag} {elts : List Expr} {kk : Nat} {tpos : Pos} (a e it : Addr) (n : Nat) :
    Turn P w K (.Tuple elts kk tpos) (IteT K a n) [e, it] e (fun i h => i ≤ n ∧ (∃ old, IsEnum h e it ((i : Nat) : Int) old) ∧ h.IsTupleIter it a i ∧ e ≠ it ∧ e ≠ a ∧ a ≠ it) where
  mem := by simp
  obj := fun i h st b hb => by
    obtain ⟨_, ⟨old, he⟩, ⟨o, ho, hc, hd⟩, _⟩ := st
    have e' : b = e ∨ b = it := by simpa using hb
    rcases e' with z | z
    · rw [z]; exact ⟨_, he, fun v q => nomatch q⟩
    · rw [z]; exact ⟨o, ho, fun v q => by rw [hd] at q; cases q⟩
  keep := fun i h h' st k => let ⟨hn, ⟨old, he⟩, hi, hne⟩ := st; ⟨hn, ⟨old, k e (by simp) _ he⟩, hi.at fun o q => k it (by simp) o q, hne⟩
  item := by
    intro X hP hw hK hc i pins s σ H E I hf st hg
    subst hP hw hK
    obtain ⟨hin, ⟨old, he⟩, hit, hne, hea, hai⟩ := st
    obtain ⟨hltn, xs, x, hq, hx⟩ := hg
    obtain ⟨its, rv, p, hz⟩ := I.tuple hq
    obtain ⟨u, hu, ru⟩ := rv.get hx
    have hel : e < s.heap.objs.size := Heap.lt_size he
    have hil : it < s.heap.objs.size := by obtain ⟨_, q, _⟩ := hit; exact Heap.lt_size q
    have hlt : i < its.toArray.size := by rw [List.size_toArray]; exact (List.getElem?_eq_some_iff.mp hu).1
    refine wpAny_pyNext_enum_itemC (Draws.tuple (A := X.A.in1) (I.ok.hd hc) it a hai its.toArray) he ⟨hit, p⟩ hlt hne (by simp [hne, hea]) fun x' h' tk hP ho hs' hT hsz hk => ?_
    obtain ⟨hit', hp'⟩ := hs'
    have hxu : x' = u := by
      have e1 : its[i]? = some x' := by simpa using hP
      rw [hu] at e1
      exact (Option.some.inj e1).symm
    subst hxu
    refine ⟨_, rfl, wpAny_letOwnedTupleGo_enum (s := { s with heap := h', toks := tk + 1 }) ho fun h'' he' sb => ?_⟩
    have hT2 : h''.get? s.heap.objs.size = some { cls := .type "tuple", data := .seq #[.int i tk, x'] } := (sb.2 _ (Nat.ne_of_gt hel)).trans hT
    have new : ObjOk X.prog X.w (upd H s.heap.objs.size (.tup [.int (i : Nat), x])) h'' s.heap.objs.size (.tup [.int (i : Nat), x]) :=
      ⟨by show 2 ≤ sizeLine; decide, [.int i tk, x'], .cons ⟨_, rfl⟩ (.cons ru .nil), ⟨_, hT2, rfl, _, rfl⟩⟩
    have I1 : Inv X pins σ (upd H s.heap.objs.size (.tup [.int (i : Nat), x])) { s with heap := h'', toks := tk + 1 } :=
      I.turnedNew (ch := [e, it]) (fun b ob hb q => (sb.2 b (fun z => hb (by simp [z]))).trans (hk b ob (fun z => hb (by simp [z])) (fun z => hb (by simp [z])) q)) hf (Nat.le_refl _) new
    refine ⟨.ref s.heap.objs.size, _, I1, rfl, ⟨_, x, rfl, I.hok.fresh (Nat.le_refl _), rfl, fun ys hy => by rw [I.tuple_inj hy hq]; exact hx⟩, ⟨hltn, ⟨x', ?_⟩, hit'.at fun o q => (sb.2 it (Ne.symm hne)).trans q, hne, hea, hai⟩, fun b hb => ?_⟩
    · have e1 : ((i + 1 : Nat) : Int) = (i : Int) + 1 := by omega
      rw [e1]; exact he'
    · have hb' : b < s.heap.objs.size := by
        have e' : b = e ∨ b = it := by simpa using hb
        rcases e' with z | z
        · rw [z]; exact hel
        · rw [z]; exact hil
      rw [upd_ne (Nat.ne_of_lt hb')]
      exact (hf b hb).1
  done := by
    intro X hP hw hK hc i pins s σ H E I hf st hg
    subst hP hw hK
    obtain ⟨hin, ⟨old, he⟩, hit, hne, hea, hai⟩ := st
    obtain ⟨hni, xs, hq, hx⟩ := hg
    obtain ⟨its, rv, p, hz⟩ := I.tuple hq
    obtain ⟨f0, f1, f2, f3, f4, f5⟩ := hf it (by simp)
    have hl := rv.length
    have ei : i = its.toArray.size := by rw [List.size_toArray]; omega
    subst ei
    exact wpAny_pyNext_enum_endD (Draws.tuple (A := X.A.in1) (I.ok.hd hc) it a hai its.toArray) he ⟨hit, p⟩ fun h' eb => ⟨rfl, I.turned (t' := s.toks) (fun b o hb q => eb b o hb q) f0 f1 f3 f4 f5⟩
  self := fun A i s Q E st h => let ⟨_, ⟨_, he⟩, _⟩ := st; wpAny_pyIter_enum he h
def iEnumA (K : PySem.W.Frag) (ta : TA) : TI := fun σ H R => ta σ H fun vs H1 => ∃ a xs, vs = [.ref a] ∧ ((SqL K H1 a xs ∧ (xs.length ≤ sizeLine → R (Ite K a) H1)) ∨ (SqT K H1 a xs ∧ (xs.length ≤ sizeLine → R (IteT K a xs.length) H1)))
theorem pi_enumA {X : Cx} {e : Expr} {ta : TA} {p pos tpos : Pos} {elts : List Expr} {kk : Nat} (hg : Gl X "enumerate") (hm : X.mg "enumerate" = none) (ha : PA X [e] ta) (hs : starEach [e] X.env = [(false, eval e X.env)] := by rfl) :
    PI X (.Tuple elts kk tpos) (.Call (.Name "enumerate" p) [e] [] pos) (iEnumA X.K ta) := by
  refine ⟨fun pins s σ H R I h => ?_⟩
  refine Call_ (ld_blt I hg hm boot_enumerate (PyProof.Rows.callWith_type1 (thn (ha.run pos pins s σ H _ I h) fun us s1 ⟨vs, H1, I1, r1, q1⟩ => ?_) hs rfl))
  obtain ⟨a, xs, ex, q⟩ := q1
  subst ex
  cases r1 with
  | cons r rr =>
    cases rr
    cases r
    have fpk : ∀ h' : Heap, ∀ b ∈ [s1.heap.objs.size + 1, s1.heap.objs.size], FpOk X pins H1 b := fun h' b hb => by
      have e' : b = s1.heap.objs.size + 1 ∨ b = s1.heap.objs.size := by simpa using hb
      have hle : s1.heap.objs.size ≤ b := by
        rcases e' with z | z
        · rw [z]; exact Nat.le_add_right _ _
        · rw [z]; exact Nat.le_refl _
      exact I1.fpOk hle (I1.hok.fresh hle)
    rcases q with ⟨hq, q⟩ | ⟨hq, q⟩
    · obtain ⟨its, rv, p', hz⟩ := I1.list hq
      refine call_enumerate_list p'.isList fun h' he hit hsz hk => wpAny_pyIter_enum he ?_
      have I2 : Inv X pins σ H1 { s1 with heap := h' } := I1.kept (t' := s1.toks) hk
      exact ⟨s1.heap.objs.size + 1, [s1.heap.objs.size + 1, s1.heap.objs.size], _, _, H1, rfl, I2, turn_enum a (s1.heap.objs.size + 1) s1.heap.objs.size, ⟨⟨.none, he⟩, hit, Nat.succ_ne_self _⟩, fpk h', q hz⟩
    · obtain ⟨its, rv, p', hz⟩ := I1.tuple hq
      have hlt := p'.lt
      refine call_enumerate_1 (begins_tuple a its.toArray) p' fun h' he ho hsz hk => wpAny_pyIter_enum he ?_
      have I2 : Inv X pins σ H1 { s1 with heap := h' } := I1.kept (t' := s1.toks) hk
      exact ⟨s1.heap.objs.size + 1, [s1.heap.objs.size + 1, s1.heap.objs.size], _, _, H1, rfl, I2, turn_enumT a (s1.heap.objs.size + 1) s1.heap.objs.size _,
        ⟨Nat.zero_le _, ⟨.none, he⟩, ⟨_, ho, rfl, rfl⟩, Nat.succ_ne_self _, Nat.ne_of_gt (Nat.lt_succ_of_lt hlt), Nat.ne_of_lt hlt⟩, fpk h', q hz⟩
end Tk

set_option Elab.async false
set_option linter.all false
set_option maxRecDepth 100000
set_option maxHeartbeats 4000000
namespace Tk
open PySem PySem.Spec PyProof.Rows
theorem zip_no_len : typeLookup (.type "zip") "__len__" = pure none := by rw [typeLookup_type, builtinLookup_eq_fast]; kernel_rfl
theorem zip_no_hint : typeLookup (.type "zip") "__length_hint__" = pure none := by rw [typeLookup_type, builtinLookup_eq_fast]; kernel_rfl

section
variable {prog : Program} {w : World} {A : Around} {E : Value → Shared → Prop} {s : Shared} {z TI TO i1 i2 T : Addr} {f : Bool} {oT : Obj} {fp1 fp2 : List Addr} {n1 n2 i : Nat} {P1 P2 : Nat → Value → Prop} {St1 St2 : Nat → Heap → Prop}
theorem zipH2_item {Q : Value → Shared → Prop} (S : ZipSep2 z TI TO i1 i2 fp1 fp2) (D1 : Draws prog w A i1 fp1 n1 P1 St1) (D2 : Draws prog w A i2 fp2 n2 P2 St2)
    (hz : IsZipHeld s.heap z TI TO T f) (hT : s.heap.get? T = some oT) (hTI : IsTupOf2 s.heap TI (.ref i1) (.ref i2)) (st1 : St1 i s.heap) (st2 : St2 i s.heap) (hlt1 : i < n1) (hlt2 : i < n2)
    (hQ : ∀ x1 x2 h' tk, P1 i x1 → P2 i x2 → IsZipHeld h' z TI TO T true → St1 (i + 1) h' → St2 (i + 1) h' → IsTupOf2 h' s.heap.objs.size x1 x2 → h'.objs.size = s.heap.objs.size + 1 →
      (∀ c o, c ≠ z → c ≠ i1 → c ≠ i2 → s.heap.get? c = some o → h'.get? c = some o) → Q (.ref s.heap.objs.size) { s with heap := h', toks := tk }) :
    wpAny (model prog w) A (Builtin.«zip.__next__» ⟨[.ref z], []⟩) (fun fin s' => ∃ v, fin = .done (.ret v) ∧ Q v s') E s := by
  obtain ⟨hp, g, d, tk0, os⟩ := s
  show wpAny _ _ (field (.ref z) 2 >>= _) _ _ _
  refine wpAny_bind (wpAny_field hz rfl (x := .bool false) rfl ?_)
  show wpAny _ _ (field (.ref z) 3 >>= _) _ _ _
  refine wpAny_bind (wpAny_field hz rfl (x := .ref TI) rfl ?_)
  refine wpAny_bind (wpAny_seqItems hTI rfl ?_)
  show wpAny _ _ (Builtin.SmallTypes.ownedTupleIsFree (.ref z) >>= _) _ _ _
  refine wpAny_bind (wpAny_tupleHeld_zip hz hT fun g0 hz0 hs0 => ?_)
  replace hs0 : Heap.SameBut z hp g0 := hs0
  simp only [Bool.false_eq_true, if_false]
  refine wpAny_bind ?_
  rw [← Array.forIn_toList]
  simp only [List.forIn_cons, List.forIn_nil]
  refine wpAny_bind (wpAny_bind (wpAny_holding ?_))
  show wpAny _ _ (Builtin.SmallTypes.nextOf (.ref i1) >>= _) _ _ ⟨g0, g, d, tk0, os⟩
  refine wpAny_bind (D1.item i ⟨g0, g, d, tk0, os⟩ _ _ hlt1 (D1.over st1 hs0 S.zf1) fun x1 p1 tk1 hx1 sn1 hp1 => wpAny_pure ?_)
  replace hp1 : Heap.SameBut i1 g0 p1 := hp1
  refine wpAny_pure ?_
  refine wpAny_bind (wpAny_bind (wpAny_holding ?_))
  show wpAny _ _ (Builtin.SmallTypes.nextOf (.ref i2) >>= _) _ _ ⟨p1, g, d, tk1, os⟩
  refine wpAny_bind (D2.item i ⟨p1, g, d, tk1, os⟩ _ _ hlt2 (D2.over (D2.over st2 hs0 S.zf2) hp1 S.sep1_2) fun x2 p2 tk2 hx2 sn2 hp2 => wpAny_pure ?_)
  replace hp2 : Heap.SameBut i2 p1 p2 := hp2
  refine wpAny_pure (wpAny_pure ?_)
  show wpAny _ _ (newTuple [x1, x2] >>= _) _ _ ⟨p2, g, d, tk2, os⟩
  refine wpAny_bind (wpAny_newTuple ?_)
  have hsz : p2.objs.size = hp.objs.size := by rw [hp2.1, hp1.1, hs0.1]
  have hzz : IsZipHeld p2 z TI TO T true := hp2.extBut _ _ S.zi2 (hp1.extBut _ _ S.zi1 (hz0))
  have hkk : ∀ c o, c ≠ z → c ≠ i1 → c ≠ i2 → hp.get? c = some o → p2.get? c = some o := fun c o cz c1 c2 e => hp2.extBut _ _ c2 (hp1.extBut _ _ c1 (hs0.extBut _ _ cz e))
  have hj1 : St1 (i + 1) p2 := D1.over (sn1) hp2 S.sep2_1
  have hj2 : St2 (i + 1) p2 := sn2
  refine wpAny_pure ⟨_, rfl, ?_⟩
  show Q (.ref p2.objs.size) ⟨p2.push { cls := .type "tuple", data := .seq #[x1, x2] }, g, d, tk2, os⟩
  have hp' : IsTupOf2 (p2.push { cls := .type "tuple", data := .seq #[x1, x2] }) p2.objs.size x1 x2 := Heap.get?_push_size _ rfl
  have hz4 : (p2.push { cls := .type "tuple", data := .seq #[x1, x2] }).objs.size = p2.objs.size + 1 := Heap.size_push ..
  rw [hsz] at hp' hz4 ⊢
  exact hQ x1 x2 _ tk2 hx1 hx2 (Heap.get?_push_of_some _ hzz) (D1.frame _ _ _ hj1 fun b hb o e => Heap.get?_push_of_some _ e) (D2.frame _ _ _ hj2 fun b hb o e => Heap.get?_push_of_some _ e) hp' hz4 fun c o cz c1 c2 e => Heap.get?_push_of_some _ (hkk c o cz c1 c2 e)
theorem zipH2_end {Q : Fin → Shared → Prop} (S : ZipSep2 z TI TO i1 i2 fp1 fp2) (D1 : Draws prog w A i1 fp1 n1 P1 St1) (D2 : Draws prog w A i2 fp2 n2 P2 St2)
    (hz : IsZipHeld s.heap z TI TO T f) (hT : s.heap.get? T = some oT) (hTI : IsTupOf2 s.heap TI (.ref i1) (.ref i2)) (st1 : St1 i s.heap) (st2 : St2 i s.heap) (hle1 : i ≤ n1) (hle2 : i ≤ n2) (hend : i = n1 ∨ i = n2)
    (hE : ∀ h' tk e, (∀ c o, c ≠ z → c ≠ i1 → c ≠ i2 → s.heap.get? c = some o → h'.get? c = some o) → (∃ o, h'.get? e = some o ∧ o.cls = .type "StopIteration") → E (.ref e) { s with heap := h', toks := tk }) :
    wpAny (model prog w) A (Builtin.«zip.__next__» ⟨[.ref z], []⟩) Q E s := by
  obtain ⟨hp, g, d, tk0, os⟩ := s
  show wpAny _ _ (field (.ref z) 2 >>= _) _ _ _
  refine wpAny_bind (wpAny_field hz rfl (x := .bool false) rfl ?_)
  show wpAny _ _ (field (.ref z) 3 >>= _) _ _ _
  refine wpAny_bind (wpAny_field hz rfl (x := .ref TI) rfl ?_)
  refine wpAny_bind (wpAny_seqItems hTI rfl ?_)
  show wpAny _ _ (Builtin.SmallTypes.ownedTupleIsFree (.ref z) >>= _) _ _ _
  refine wpAny_bind (wpAny_tupleHeld_zip hz hT fun g0 hz0 hs0 => ?_)
  replace hs0 : Heap.SameBut z hp g0 := hs0
  simp only [Bool.false_eq_true, if_false]
  refine wpAny_bind ?_
  rw [← Array.forIn_toList]
  simp only [List.forIn_cons, List.forIn_nil]
  refine wpAny_bind (wpAny_bind (wpAny_holding ?_))
  show wpAny _ _ (Builtin.SmallTypes.nextOf (.ref i1) >>= _) _ _ ⟨g0, g, d, tk0, os⟩
  by_cases hlt1 : i < n1
  · refine wpAny_bind (D1.item i ⟨g0, g, d, tk0, os⟩ _ _ hlt1 (D1.over st1 hs0 S.zf1) fun x1 p1 tk1 hx1 sn1 hp1 => wpAny_pure ?_)
    replace hp1 : Heap.SameBut i1 g0 p1 := hp1
    refine wpAny_pure ?_
    refine wpAny_bind (wpAny_bind (wpAny_holding ?_))
    show wpAny _ _ (Builtin.SmallTypes.nextOf (.ref i2) >>= _) _ _ ⟨p1, g, d, tk1, os⟩
    have hi2 : i = n2 := by omega
    refine wpAny_bind (D2.done ⟨p1, g, d, tk1, os⟩ _ _ (by rw [← hi2]; exact (D2.over (D2.over st2 hs0 S.zf2) hp1 S.sep1_2)) fun q e hq he => ?_)
    exact hE q tk1 e (fun c o cz c1 c2 x => hq _ _ c2 (hp1.extBut _ _ c1 (hs0.extBut _ _ cz x))) he
  · have hi1 : i = n1 := by omega
    refine wpAny_bind (D1.done ⟨g0, g, d, tk0, os⟩ _ _ (by rw [← hi1]; exact (D1.over st1 hs0 S.zf1)) fun q e hq he => ?_)
    exact hE q tk0 e (fun c o cz c1 c2 x => hq _ _ c1 (hs0.extBut _ _ cz x)) he
theorem zipH2_next_item {Q : Option Value → Shared → Prop} (S : ZipSep2 z TI TO i1 i2 fp1 fp2) (D1 : Draws prog w A.in1 i1 fp1 n1 P1 St1) (D2 : Draws prog w A.in1 i2 fp2 n2 P2 St2)
    (hz : IsZipHeld s.heap z TI TO T f) (hT : s.heap.get? T = some oT) (hTI : IsTupOf2 s.heap TI (.ref i1) (.ref i2)) (st1 : St1 i s.heap) (st2 : St2 i s.heap) (hlt1 : i < n1) (hlt2 : i < n2)
    (hQ : ∀ x1 x2 h' tk, P1 i x1 → P2 i x2 → IsZipHeld h' z TI TO T true → St1 (i + 1) h' → St2 (i + 1) h' → IsTupOf2 h' s.heap.objs.size x1 x2 → h'.objs.size = s.heap.objs.size + 1 →
      (∀ c o, c ≠ z → c ≠ i1 → c ≠ i2 → s.heap.get? c = some o → h'.get? c = some o) → Q (some (.ref s.heap.objs.size)) { s with heap := h', toks := tk }) :
    wpAny (model prog w) A (pyNext (.ref z)) Q E s := by
  have hTy : s.TypeIs (.ref z) "zip" := ⟨_, hz, rfl⟩
  unfold pyNext
  exact wpAny_bind (wpAny_attempt (wpAny_callSpecial?_slot (name := Str.ofString "__next__") hTy F.slot_zip_next
    (wpAny_call_entry F.slot_zip_next hTy F.entry_zip_next
      (zipH2_item S D1 D2 hz hT hTI st1 st2 hlt1 hlt2 fun x1 x2 h' tk a1 a2 a3 a4 a5 a6 a7 a8 => wpAny_pure (hQ x1 x2 h' tk a1 a2 a3 a4 a5 a6 a7 a8)) (F.args_zip_next_1 _))))
theorem zipH2_next_end {Q : Option Value → Shared → Prop} (S : ZipSep2 z TI TO i1 i2 fp1 fp2) (D1 : Draws prog w A.in1 i1 fp1 n1 P1 St1) (D2 : Draws prog w A.in1 i2 fp2 n2 P2 St2)
    (hz : IsZipHeld s.heap z TI TO T f) (hT : s.heap.get? T = some oT) (hTI : IsTupOf2 s.heap TI (.ref i1) (.ref i2)) (st1 : St1 i s.heap) (st2 : St2 i s.heap) (hle1 : i ≤ n1) (hle2 : i ≤ n2) (hend : i = n1 ∨ i = n2)
    (hQ : ∀ h' tk, (∀ c o, c ≠ z → c ≠ i1 → c ≠ i2 → s.heap.get? c = some o → h'.get? c = some o) → Q none { s with heap := h', toks := tk }) : wpAny (model prog w) A (pyNext (.ref z)) Q E s := by
  have hTy : s.TypeIs (.ref z) "zip" := ⟨_, hz, rfl⟩
  unfold pyNext
  refine wpAny_bind (wpAny_attempt (wpAny_callSpecial?_slot (name := Str.ofString "__next__") hTy F.slot_zip_next
    (wpAny_call_entry F.slot_zip_next hTy F.entry_zip_next (zipH2_end S D1 D2 hz hT hTI st1 st2 hle1 hle2 hend fun h' tk e hk he => ?_) (F.args_zip_next_1 _))))
  obtain ⟨o, ho, hc⟩ := he
  refine wpAny_bind (wpAny_isInstance (T := "StopIteration") (b := true) ⟨o, ho, hc⟩ isSubtype_stop ?_)
  exact wpAny_pure (hQ _ tk hk)
end

/-- a zip before turn i, the tuple that was given out held or none -/
def ZS2 (z TI TO i1 i2 L : Addr) (St1 St2 : Nat → Heap → Prop) (i : Nat) (h : Heap) : Prop :=
  IsTupOf2 h TI (.ref i1) (.ref i2) ∧ St1 i h ∧ St2 i h ∧ ((IsZip h z TI TO .none ∧ ∃ a1 a2, IsTupOf2 h TO a1 a2) ∨ ∃ T f oT, IsZipHeld h z TI TO T f ∧ h.get? T = some oT ∧ T ≠ z ∧ T ≠ TO ∧ T ≠ i1 ∧ T ≠ i2 ∧ T ≠ L)
/-- the items that were given out -/
def ZI2 (N : Nat) (z TO i1 i2 L : Addr) (P1 P2 : Nat → Value → Prop) (acc : Array Value) (h : Heap) : Prop :=
  acc.toList.Nodup ∧ ∀ j v, acc[j]? = some v → ∃ T x1 x2, v = .ref T ∧ P1 j x1 ∧ P2 j x2 ∧ (IsTupOf2 h T x1 x2 ∧ N ≤ T) ∧ T ≠ z ∧ T ≠ TO ∧ T ≠ i1 ∧ T ≠ i2 ∧ T ≠ L
section
variable {prog : Program} {w : World} {A : Around} {E : Value → Shared → Prop} {s : Shared} {z TI TO i1 i2 L : Addr} {fp1 fp2 : List Addr} {n1 n2 i : Nat} {P1 P2 : Nat → Value → Prop} {St1 St2 : Nat → Heap → Prop}
theorem ZS2.stay (S : ZipSep2 z TI TO i1 i2 fp1 fp2) (D1 : Draws prog w A i1 fp1 n1 P1 St1) (D2 : Draws prog w A i2 fp2 n2 P2 St2) (Lz : L ≠ z) (LTI : L ≠ TI) (LTO : L ≠ TO) (Lf1 : L ∉ fp1) (Lf2 : L ∉ fp2) {h h' : Heap} (x : ZS2 z TI TO i1 i2 L St1 St2 i h) (e : ∀ b o, b ≠ L → h.get? b = some o → h'.get? b = some o) : ZS2 z TI TO i1 i2 L St1 St2 i h' := by
  obtain ⟨hTI, st1, st2, hz⟩ := x
  refine ⟨e _ _ (Ne.symm LTI) hTI, D1.frame _ _ _ st1 fun b hb o q => e b o (fun y => Lf1 (y ▸ hb)) q, D2.frame _ _ _ st2 fun b hb o q => e b o (fun y => Lf2 (y ▸ hb)) q, ?_⟩
  rcases hz with ⟨hz, a1, a2, hTO⟩ | ⟨T, f, oT, hz, hT, r⟩
  · exact .inl ⟨e _ _ (Ne.symm Lz) hz, a1, a2, e _ _ (Ne.symm LTO) hTO⟩
  · exact .inr ⟨T, f, oT, e _ _ (Ne.symm Lz) hz, e _ _ (r.2.2.2.2) hT, r⟩
theorem ZS2.next {Q : Option Value → Shared → Prop} (S : ZipSep2 z TI TO i1 i2 fp1 fp2) (D1 : Draws prog w A.in1 i1 fp1 n1 P1 St1) (D2 : Draws prog w A.in1 i2 fp2 n2 P2 St2) (hi : i < min n1 n2) (x : ZS2 z TI TO i1 i2 L St1 St2 i s.heap) (hL : L < s.heap.objs.size)
    (lt : z < s.heap.objs.size ∧ TO < s.heap.objs.size ∧ i1 < s.heap.objs.size ∧ i2 < s.heap.objs.size)
    (hQ : ∀ x1 x2 h' tk, P1 i x1 → P2 i x2 → ZS2 z TI TO i1 i2 L St1 St2 (i + 1) h' → IsTupOf2 h' s.heap.objs.size x1 x2 → h'.objs.size = s.heap.objs.size + 1 →
      (∀ c o, c ≠ z → c ≠ TO → c ≠ i1 → c ≠ i2 → s.heap.get? c = some o → h'.get? c = some o) → Q (some (.ref s.heap.objs.size)) { s with heap := h', toks := tk }) : wpAny (model prog w) A (pyNext (.ref z)) Q E s := by
  obtain ⟨hTI, st1, st2, hz⟩ := x
  have hlt1 : i < n1 := by omega
  have hlt2 : i < n2 := by omega
  rcases hz with ⟨hz, a1, a2, hTO⟩ | ⟨T, f, oT, hz, hT, r⟩
  · refine wpAny_pyNext_zipD2_item S D1 D2 hz hTI hTO st1 st2 hlt1 hlt2 fun x1 x2 h' tk q1 q2 hz' hTO' s1 s2 hp hs hk => ?_
    refine hQ x1 x2 h' tk q1 q2 ⟨hk _ _ S.TIz S.TITO S.TIi1 S.TIi2 hTI, s1, s2, .inr ⟨s.heap.objs.size, false, _, hz', hp, Nat.ne_of_gt lt.1, Nat.ne_of_gt lt.2.1, Nat.ne_of_gt lt.2.2.1, Nat.ne_of_gt lt.2.2.2, Nat.ne_of_gt hL⟩⟩ hp hs hk
  · refine zipH2_next_item S D1 D2 hz hT hTI st1 st2 hlt1 hlt2 fun x1 x2 h' tk q1 q2 hz' s1 s2 hp hs hk => ?_
    refine hQ x1 x2 h' tk q1 q2 ⟨hk _ _ S.TIz S.TIi1 S.TIi2 hTI, s1, s2, .inr ⟨T, true, oT, hz', hk _ _ r.1 r.2.2.1 r.2.2.2.1 hT, r⟩⟩ hp hs fun c o cz _ c1 c2 e => hk c o cz c1 c2 e
theorem ZS2.stop {Q : Option Value → Shared → Prop} (S : ZipSep2 z TI TO i1 i2 fp1 fp2) (D1 : Draws prog w A.in1 i1 fp1 n1 P1 St1) (D2 : Draws prog w A.in1 i2 fp2 n2 P2 St2) (hi : i = min n1 n2) (x : ZS2 z TI TO i1 i2 L St1 St2 i s.heap)
    (hQ : ∀ h' tk, (∀ c o, c ≠ z → c ≠ TO → c ≠ i1 → c ≠ i2 → s.heap.get? c = some o → h'.get? c = some o) → Q none { s with heap := h', toks := tk }) : wpAny (model prog w) A (pyNext (.ref z)) Q E s := by
  obtain ⟨hTI, st1, st2, hz⟩ := x
  rcases hz with ⟨hz, a1, a2, hTO⟩ | ⟨T, f, oT, hz, hT, r⟩
  · exact wpAny_pyNext_zipD2_end S D1 D2 hz hTI hTO st1 st2 (by omega) (by omega) (by omega) fun h' tk hk => hQ h' tk hk
  · exact zipH2_next_end S D1 D2 hz hT hTI st1 st2 (by omega) (by omega) (by omega) fun h' tk hk => hQ h' tk fun c o cz _ c1 c2 e => hk c o cz c1 c2 e
/-- the loop of list(zip(..)) -/
theorem zip2_loop {R : Result → Shared → Prop} (S : ZipSep2 z TI TO i1 i2 fp1 fp2) (D1 : Draws prog w A.in1.in1 i1 fp1 n1 P1 St1) (D2 : Draws prog w A.in1.in1 i2 fp2 n2 P2 St2) (hn : min n1 n2 ≤ sizeLine) (Lz : L ≠ z) (LTI : L ≠ TI) (LTO : L ≠ TO) (Lf1 : L ∉ fp1) (Lf2 : L ∉ fp2) (res : Value) (N : Nat) :
    ∀ (k i : Nat) (s : Shared) (acc : Array Value) (c : Nat), N ≤ s.heap.objs.size → min n1 n2 - i = k → i ≤ min n1 n2 → ZS2 z TI TO i1 i2 L St1 St2 i s.heap → (z < s.heap.objs.size ∧ TO < s.heap.objs.size ∧ i1 < s.heap.objs.size ∧ i2 < s.heap.objs.size) →
      s.heap.get? L = some { cls := .type "list", dict := none, data := .seq acc c, slots := #[] } → acc.size = i → ZI2 N z TO i1 i2 L P1 P2 acc s.heap →
      (∀ h' tk acc' c', (∀ b o, b ≠ L → b ≠ z → b ≠ TO → b ≠ i1 → b ≠ i2 → s.heap.get? b = some o → h'.get? b = some o) → h'.get? L = some { cls := .type "list", dict := none, data := .seq acc' c', slots := #[] } → acc'.size = min n1 n2 → ZI2 N z TO i1 i2 L P1 P2 acc' h' →
        R (.ok (.ret res)) { s with heap := h', toks := tk }) →
      codeAny (model prog w) A (.builtin "list.extend.loop" ⟨[.ref L, .ref z, res], []⟩) R s := by
  intro k
  induction k with
  | zero =>
    intro i s acc c hN hk hi x lt hL hacc hZ hR
    have hin : i = min n1 n2 := by omega
    refine codeAny_builtin F.entry_extend_loop ?_
    rw [Around.under_plainId F.plain_extend_loop _]
    show wpAny _ A.in1 (pyNext (.ref z) >>= _) _ _ s
    refine wpAny_bind (ZS2.stop S D1 D2 hin x fun h' tk hk => wpAny_pure ?_)
    have hLL := hk L _ Lz LTO (fun e => Lf1 (e ▸ S.mem1)) (fun e => Lf2 (e ▸ S.mem2)) hL
    refine hR h' tk acc c (fun b o _ => hk b o) hLL (hacc.trans hin) ⟨hZ.1, fun j v hj => ?_⟩
    obtain ⟨T, x1, x2, e, p1, p2, ht, r⟩ := hZ.2 j v hj
    exact ⟨T, x1, x2, e, p1, p2, ⟨hk _ _ r.1 r.2.1 r.2.2.1 r.2.2.2.1 ht.1, ht.2⟩, r⟩
  | succ k ih =>
    intro i s acc c hN hk hi x lt hL hacc hZ hR
    have hlt : i < min n1 n2 := by omega
    refine codeAny_builtin F.entry_extend_loop ?_
    rw [Around.under_plainId F.plain_extend_loop _]
    show wpAny _ A.in1 (pyNext (.ref z) >>= _) _ _ s
    refine wpAny_bind (ZS2.next S D1 D2 hlt x (Heap.lt_size hL) lt fun x1 x2 h' tk q1 q2 x' hp hs hk => ?_)
    have hLL := hk L _ Lz LTO (fun e => Lf1 (e ▸ S.mem1)) (fun e => Lf2 (e ▸ S.mem2)) hL
    show wpAny _ A.in1 (updateSeq L (·.push (.ref s.heap.objs.size)) >>= _) _ _ _
    refine wpAny_bind ?_
    have oth : ∀ b o, b ≠ L → h'.get? b = some o → (h'.update L (Obj.mapSeq (·.push (.ref s.heap.objs.size)))).get? b = some o := fun b o hb e => (Heap.get?_update_other _ _ (Ne.symm hb)).trans e
    have szu : (h'.update L (Obj.mapSeq (·.push (.ref s.heap.objs.size)))).objs.size = h'.objs.size := Heap.size_update ..
    refine wpAny_updateSeq hLL rfl (wpAny_pure ⟨plainId_quiet F.plain_extend_loop _, ih (i + 1) _ (acc.push (.ref s.heap.objs.size)) _ (by show N ≤ (h'.update L _).objs.size; rw [szu, hs]; omega) (by omega) hlt (ZS2.stay S D1 D2 Lz LTI LTO Lf1 Lf2 x' oth) ?_ (Heap.get?_update_self _ hLL rfl) (by rw [Array.size_push, hacc]) ⟨?_, fun j v hj => ?_⟩ fun h2 tk2 acc' c' hk2 hL2 hs2 hZ2 => ?_⟩)
      (by rw [hacc]; omega) (by show (acc.push _).size ≤ sizeLine + 1; rw [Array.size_push, hacc]; omega)
    · show z < (h'.update L (Obj.mapSeq (·.push (.ref s.heap.objs.size)))).objs.size ∧ TO < (h'.update L (Obj.mapSeq (·.push (.ref s.heap.objs.size)))).objs.size ∧ i1 < (h'.update L (Obj.mapSeq (·.push (.ref s.heap.objs.size)))).objs.size ∧ i2 < (h'.update L (Obj.mapSeq (·.push (.ref s.heap.objs.size)))).objs.size
      rw [szu, hs]
      exact ⟨Nat.lt_succ_of_lt lt.1, Nat.lt_succ_of_lt lt.2.1, Nat.lt_succ_of_lt lt.2.2.1, Nat.lt_succ_of_lt lt.2.2.2⟩
    · rw [Array.toList_push]
      refine List.nodup_append.mpr ⟨hZ.1, by simp, fun a ha b hb e => ?_⟩
      subst e
      have eb := List.mem_singleton.mp hb
      obtain ⟨j, hj⟩ := List.getElem?_of_mem ha
      obtain ⟨T, y1, y2, e, p1, p2, ht, r⟩ := hZ.2 j a (by simpa using hj)
      rw [eb] at e
      injection e with e
      exact Nat.lt_irrefl _ (e ▸ Heap.lt_size ht.1)
    · show ∃ T x1 x2, v = .ref T ∧ P1 j x1 ∧ P2 j x2 ∧ (IsTupOf2 (h'.update L (Obj.mapSeq (·.push (.ref s.heap.objs.size)))) T x1 x2 ∧ N ≤ T) ∧ T ≠ z ∧ T ≠ TO ∧ T ≠ i1 ∧ T ≠ i2 ∧ T ≠ L
      rw [Array.getElem?_push] at hj
      split at hj
      · rename_i e
        cases hj
        rw [hacc] at e
        subst e
        exact ⟨_, x1, x2, rfl, q1, q2, ⟨oth _ _ (Nat.ne_of_gt (Heap.lt_size hL)) hp, hN⟩, Nat.ne_of_gt lt.1, Nat.ne_of_gt lt.2.1, Nat.ne_of_gt lt.2.2.1, Nat.ne_of_gt lt.2.2.2, Nat.ne_of_gt (Heap.lt_size hL)⟩
      · obtain ⟨T, y1, y2, e, p1, p2, ht, r⟩ := hZ.2 j v hj
        exact ⟨T, y1, y2, e, p1, p2, ⟨oth _ _ (r.2.2.2.2) (hk _ _ r.1 r.2.1 r.2.2.1 r.2.2.2.1 ht.1), ht.2⟩, r⟩
    · exact hR h2 tk2 acc' c' (fun b o bL bz bT b1 b2 e => hk2 b o bL bz bT b1 b2 (oth b o bL (hk b o bz bT b1 b2 e))) hL2 hs2 hZ2
theorem zip2_init {R : Result → Shared → Prop} (S : ZipSep2 z TI TO i1 i2 fp1 fp2) (D1 : Draws prog w A.in1.in1 i1 fp1 n1 P1 St1) (D2 : Draws prog w A.in1.in1 i2 fp2 n2 P2 St2) (hn : min n1 n2 ≤ sizeLine) (Lz : L ≠ z) (LTI : L ≠ TI) (LTO : L ≠ TO) (Lf1 : L ∉ fp1) (Lf2 : L ∉ fp2)
    (hz : IsZip s.heap z TI TO .none) (hTI : IsTupOf2 s.heap TI (.ref i1) (.ref i2)) (hTO : ∃ a1 a2, IsTupOf2 s.heap TO a1 a2) (st1 : St1 0 s.heap) (st2 : St2 0 s.heap) (lt : z < s.heap.objs.size ∧ TO < s.heap.objs.size ∧ i1 < s.heap.objs.size ∧ i2 < s.heap.objs.size)
    (hL : s.heap.get? L = some { cls := .type "list", data := .seq #[] }) (N : Nat) (hN : N ≤ s.heap.objs.size)
    (hR : ∀ h' tk acc' c', (∀ b o, b ≠ L → b ≠ z → b ≠ TO → b ≠ i1 → b ≠ i2 → s.heap.get? b = some o → h'.get? b = some o) → h'.get? L = some { cls := .type "list", dict := none, data := .seq acc' c', slots := #[] } → acc'.size = min n1 n2 → ZI2 N z TO i1 i2 L P1 P2 acc' h' →
        R (.ok (.ret .none)) { s with heap := h', toks := tk }) :
    wpAny (model prog w) A.in1 (Builtin.«list.__init__» ⟨[.ref L, .ref z], []⟩)
      (fun fin s' => match fin with | .done f => R (.ok f) s' | .again c' => c'.quiet = true ∧ codeAny (model prog w) A c' R s') (fun e s' => R (.error e) s') s := by
  show wpAny _ A.in1 (do let old ← Builtin.List.listItems (.ref L); Builtin.List.listUpdate (.ref L) (fun _ => #[]); letGo old.toList.reverse; Builtin.List.listExtendWith (.ref L) (.ref z) .none) _ _ s
  refine wpAny_bind ?_
  unfold Builtin.List.listItems
  refine wpAny_bind (wpAny_seqItems hL rfl (wpAny_pure ?_))
  show wpAny _ A.in1 (updateSeq L (fun _ => #[]) >>= fun _ => letGo (#[] : Array Value).toList.reverse >>= fun _ => Builtin.List.listExtendWith (.ref L) (.ref z) .none) _ _ s
  refine wpAny_bind (wpAny_updateSeq hL rfl ?_)
  have hL1 := Heap.get?_update_self (Obj.mapSeq (fun _ => (#[] : Array Value))) hL rfl
  have o1 : ∀ b o, b ≠ L → s.heap.get? b = some o → (s.heap.update L (Obj.mapSeq (fun _ => (#[] : Array Value)))).get? b = some o :=
    fun b o hb e => (Heap.get?_update_other _ _ (Ne.symm hb)).trans e
  refine wpAny_bind (wpAny_letGo ?_)
  generalize hh1 : s.heap.update L (Obj.mapSeq (fun _ => (#[] : Array Value))) = h1 at hL1 o1
  have sz1 : h1.objs.size = s.heap.objs.size := by rw [← hh1]; exact Heap.size_update ..
  have hz1 := o1 _ _ (Ne.symm Lz) hz
  have hTy : ({ s with heap := h1 } : Shared).TypeIs (.ref z) "zip" := ⟨_, hz1, rfl⟩
  unfold Builtin.List.listExtendWith
  refine wpAny_bind (wpAny_typeOf hTy ?_)
  have e1 : Builtin.List.listSameRef (.ref L) (.ref z) = false := by simp [Builtin.List.listSameRef, Lz]
  have e2 : (Value.type "zip" == Value.type "list") = false := by decide
  have e3 : (Value.type "zip" == Value.type "tuple") = false := by decide
  simp only [e1, e2, e3, Bool.or_false, Bool.false_eq_true, if_false]
  refine wpAny_bind (wpAny_pyIter_zip hz1 ?_)
  refine wpAny_bind (wpAny_holding ?_)
  unfold Builtin.List.listLengthHint
  refine wpAny_bind (wpAny_specialOf hTy zip_no_len ?_)
  show wpAny _ A.in1 (specialOf (Value.ref z) (Str.ofString "__length_hint__") >>= _) _ _ _
  refine wpAny_bind (wpAny_specialOf hTy zip_no_hint ?_)
  refine wpAny_pure ?_
  show wpAny _ A.in1 (rule "list.extend.makes-room" >>= fun _ => Builtin.List.listTouch (.ref L) >>= fun _ =>
    again (.builtin "list.extend.loop" ⟨[.ref L, .ref z, .none], []⟩)) _ _ _
  refine wpAny_bind (wpAny_rule ?_)
  refine wpAny_bind ?_
  show wpAny _ A.in1 (updateSeq L (·.push .none) >>= fun _ => updateSeq L (·.pop)) _ _ _
  refine wpAny_bind (wpAny_updateSeq hL1 rfl ?_)
  have hL2 := Heap.get?_update_self (Obj.mapSeq (·.push Value.none)) hL1 rfl
  refine wpAny_updateSeq (hz := by seq_fits) hL2 rfl ?_
  have hL3 := Heap.get?_update_self (Obj.mapSeq (·.pop)) hL2 rfl
  have o2 : ∀ b o, b ≠ L → s.heap.get? b = some o → ((h1.update L (Obj.mapSeq (·.push Value.none))).update L (Obj.mapSeq (·.pop))).get? b = some o :=
    fun b o hb e => (Heap.get?_update_other _ _ (Ne.symm hb)).trans ((Heap.get?_update_other _ _ (Ne.symm hb)).trans (o1 b o hb e))
  have sz2 : ((h1.update L (Obj.mapSeq (·.push Value.none))).update L (Obj.mapSeq (·.pop))).objs.size = s.heap.objs.size := by rw [← sz1]; exact (Heap.size_update ..).trans (Heap.size_update ..)
  have x0 : ZS2 z TI TO i1 i2 L St1 St2 0 s.heap := ⟨hTI, st1, st2, .inl ⟨hz, hTO⟩⟩
  refine wpAny_pure ⟨plainId_quiet F.plain_extend_loop _, zip2_loop S D1 D2 hn Lz LTI LTO Lf1 Lf2 .none N (min n1 n2) 0 _ #[] _ (by show N ≤ ((h1.update L _).update L _).objs.size; rw [sz2]; exact hN) rfl (Nat.zero_le _) (ZS2.stay S D1 D2 Lz LTI LTO Lf1 Lf2 x0 o2) ?_ hL3 rfl ⟨by simp, fun j v hj => by simp at hj⟩ fun h' tk acc' c' hk hL' hs hZ => ?_⟩
  · show z < ((h1.update L (Obj.mapSeq (·.push Value.none))).update L (Obj.mapSeq (·.pop))).objs.size ∧ TO < ((h1.update L (Obj.mapSeq (·.push Value.none))).update L (Obj.mapSeq (·.pop))).objs.size ∧ i1 < ((h1.update L (Obj.mapSeq (·.push Value.none))).update L (Obj.mapSeq (·.pop))).objs.size ∧ i2 < ((h1.update L (Obj.mapSeq (·.push Value.none))).update L (Obj.mapSeq (·.pop))).objs.size
    rw [sz2]
    exact lt
  · exact hR h' tk acc' c' (fun b o bL bz bT b1 b2 e => hk b o bL bz bT b1 b2 (o2 b o bL e)) hL' hs hZ
/-- list(zip object) -/
theorem call_list_zip2 {Q : Value → Shared → Prop} (S : ZipSep2 z TI TO i1 i2 fp1 fp2) (D1 : Draws prog w A.in1.in1.in1 i1 fp1 n1 P1 St1) (D2 : Draws prog w A.in1.in1.in1 i2 fp2 n2 P2 St2) (hn : min n1 n2 ≤ sizeLine)
    (hz : IsZip s.heap z TI TO .none) (hTI : IsTupOf2 s.heap TI (.ref i1) (.ref i2)) (hTO : ∃ a1 a2, IsTupOf2 s.heap TO a1 a2) (st1 : St1 0 s.heap) (st2 : St2 0 s.heap) (lt : z < s.heap.objs.size ∧ TO < s.heap.objs.size ∧ i1 < s.heap.objs.size ∧ i2 < s.heap.objs.size) (lf1 : ∀ b ∈ fp1, b < s.heap.objs.size) (lf2 : ∀ b ∈ fp2, b < s.heap.objs.size) (N : Nat) (hN : N ≤ s.heap.objs.size)
    (hQ : ∀ h' tk acc' c', (∀ b o, b ≠ z → b ≠ TO → b ≠ i1 → b ≠ i2 → s.heap.get? b = some o → h'.get? b = some o) → h'.get? s.heap.objs.size = some { cls := .type "list", dict := none, data := .seq acc' c', slots := #[] } → acc'.size = min n1 n2 →
      (∀ j v, acc'[j]? = some v → ∃ T x1 x2, v = .ref T ∧ P1 j x1 ∧ P2 j x2 ∧ IsTupOf2 h' T x1 x2 ∧ N ≤ T ∧ T ≠ s.heap.objs.size) → acc'.toList.Nodup → Q (.ref s.heap.objs.size) { s with heap := h', toks := tk }) :
    wpAny (model prog w) A (call (.type "list") [.ref z]) Q E s := by
  have nz : s.heap.objs.size ≠ z := Nat.ne_of_gt lt.1
  have nTO : s.heap.objs.size ≠ TO := Nat.ne_of_gt lt.2.1
  have nTI : s.heap.objs.size ≠ TI := Nat.ne_of_gt (Heap.lt_size hTI)
  refine callType_codes (Q₁ := fun obj s₁ => obj = .ref s.heap.objs.size ∧ s₁ = { s with heap := s.heap.push { cls := .type "list", data := .seq #[] } }) F.called_list (F.typeCall_list_1 _) F.entry_list_init
    (code_list_new _ ⟨rfl, rfl⟩) fun obj s₁ h₁ => ?_
  obtain ⟨rfl, rfl⟩ := h₁
  have hL : (s.heap.push { cls := .type "list", data := .seq #[] }).get? s.heap.objs.size = some { cls := .type "list", data := .seq #[] } := Heap.get?_push_size _ rfl
  have up : ∀ b o, s.heap.get? b = some o → (s.heap.push { cls := .type "list", data := .seq #[] }).get? b = some o := fun b o e => Heap.get?_push_of_some _ e
  have szp : (s.heap.push { cls := .type "list", data := .seq #[] }).objs.size = s.heap.objs.size + 1 := Heap.size_push ..
  refine ⟨⟨_, hL, rfl⟩, F.args_list_init_2 _ _, zip2_init (s := { s with heap := s.heap.push { cls := .type "list", data := .seq #[] } }) S D1 D2 hn nz nTI nTO (fun m => Nat.lt_irrefl _ (lf1 _ m)) (fun m => Nat.lt_irrefl _ (lf2 _ m)) (up _ _ hz) (up _ _ hTI) ?_ (D1.frame _ _ _ st1 fun b _ o e => up b o e) (D2.frame _ _ _ st2 fun b _ o e => up b o e) ?_ hL N (by show N ≤ (s.heap.push _).objs.size; rw [szp]; omega) fun h' tk acc' c' hk hL' hs hZ => ?_⟩
  · obtain ⟨a1, a2, t⟩ := hTO
    exact ⟨a1, a2, up _ _ t⟩
  · show z < (s.heap.push _).objs.size ∧ TO < (s.heap.push _).objs.size ∧ i1 < (s.heap.push _).objs.size ∧ i2 < (s.heap.push _).objs.size
    rw [szp]
    exact ⟨Nat.lt_succ_of_lt lt.1, Nat.lt_succ_of_lt lt.2.1, Nat.lt_succ_of_lt lt.2.2.1, Nat.lt_succ_of_lt lt.2.2.2⟩
  · refine ⟨rfl, hQ h' tk acc' c' (fun b o b1 b2 b3 b4 e => hk b o (Nat.ne_of_lt (Heap.lt_size e)) b1 b2 b3 b4 (up b o e)) hL' hs (fun j v hj => ?_) hZ.1⟩
    obtain ⟨T, x1, x2, e, p1, p2, ht, r⟩ := hZ.2 j v hj
    exact ⟨T, x1, x2, e, p1, p2, ht.1, ht.2, r.2.2.2.2⟩
end

section
variable {prog : Program} {w : World} {A : Around} {E : Value → Shared → Prop} {s : Shared} {z TI TO i1 i2 i3 T : Addr} {f : Bool} {oT : Obj} {fp1 fp2 fp3 : List Addr} {n1 n2 n3 i : Nat} {P1 P2 P3 : Nat → Value → Prop} {St1 St2 St3 : Nat → Heap → Prop}
theorem zipH3_item {Q : Value → Shared → Prop} (S : ZipSep3 z TI TO i1 i2 i3 fp1 fp2 fp3) (D1 : Draws prog w A i1 fp1 n1 P1 St1) (D2 : Draws prog w A i2 fp2 n2 P2 St2) (D3 : Draws prog w A i3 fp3 n3 P3 St3)
    (hz : IsZipHeld s.heap z TI TO T f) (hT : s.heap.get? T = some oT) (hTI : IsTupOf3 s.heap TI (.ref i1) (.ref i2) (.ref i3)) (st1 : St1 i s.heap) (st2 : St2 i s.heap) (st3 : St3 i s.heap) (hlt1 : i < n1) (hlt2 : i < n2) (hlt3 : i < n3)
    (hQ : ∀ x1 x2 x3 h' tk, P1 i x1 → P2 i x2 → P3 i x3 → IsZipHeld h' z TI TO T true → St1 (i + 1) h' → St2 (i + 1) h' → St3 (i + 1) h' → IsTupOf3 h' s.heap.objs.size x1 x2 x3 → h'.objs.size = s.heap.objs.size + 1 →
      (∀ c o, c ≠ z → c ≠ i1 → c ≠ i2 → c ≠ i3 → s.heap.get? c = some o → h'.get? c = some o) → Q (.ref s.heap.objs.size) { s with heap := h', toks := tk }) :
    wpAny (model prog w) A (Builtin.«zip.__next__» ⟨[.ref z], []⟩) (fun fin s' => ∃ v, fin = .done (.ret v) ∧ Q v s') E s := by
  obtain ⟨hp, g, d, tk0, os⟩ := s
  show wpAny _ _ (field (.ref z) 2 >>= _) _ _ _
  refine wpAny_bind (wpAny_field hz rfl (x := .bool false) rfl ?_)
  show wpAny _ _ (field (.ref z) 3 >>= _) _ _ _
  refine wpAny_bind (wpAny_field hz rfl (x := .ref TI) rfl ?_)
  refine wpAny_bind (wpAny_seqItems hTI rfl ?_)
  show wpAny _ _ (Builtin.SmallTypes.ownedTupleIsFree (.ref z) >>= _) _ _ _
  refine wpAny_bind (wpAny_tupleHeld_zip hz hT fun g0 hz0 hs0 => ?_)
  replace hs0 : Heap.SameBut z hp g0 := hs0
  simp only [Bool.false_eq_true, if_false]
  refine wpAny_bind ?_
  rw [← Array.forIn_toList]
  simp only [List.forIn_cons, List.forIn_nil]
  refine wpAny_bind (wpAny_bind (wpAny_holding ?_))
  show wpAny _ _ (Builtin.SmallTypes.nextOf (.ref i1) >>= _) _ _ ⟨g0, g, d, tk0, os⟩
  refine wpAny_bind (D1.item i ⟨g0, g, d, tk0, os⟩ _ _ hlt1 (D1.over st1 hs0 S.zf1) fun x1 p1 tk1 hx1 sn1 hp1 => wpAny_pure ?_)
  replace hp1 : Heap.SameBut i1 g0 p1 := hp1
  refine wpAny_pure ?_
  refine wpAny_bind (wpAny_bind (wpAny_holding ?_))
  show wpAny _ _ (Builtin.SmallTypes.nextOf (.ref i2) >>= _) _ _ ⟨p1, g, d, tk1, os⟩
  refine wpAny_bind (D2.item i ⟨p1, g, d, tk1, os⟩ _ _ hlt2 (D2.over (D2.over st2 hs0 S.zf2) hp1 S.sep1_2) fun x2 p2 tk2 hx2 sn2 hp2 => wpAny_pure ?_)
  replace hp2 : Heap.SameBut i2 p1 p2 := hp2
  refine wpAny_pure ?_
  refine wpAny_bind (wpAny_bind (wpAny_holding ?_))
  show wpAny _ _ (Builtin.SmallTypes.nextOf (.ref i3) >>= _) _ _ ⟨p2, g, d, tk2, os⟩
  refine wpAny_bind (D3.item i ⟨p2, g, d, tk2, os⟩ _ _ hlt3 (D3.over (D3.over (D3.over st3 hs0 S.zf3) hp1 S.sep1_3) hp2 S.sep2_3) fun x3 p3 tk3 hx3 sn3 hp3 => wpAny_pure ?_)
  replace hp3 : Heap.SameBut i3 p2 p3 := hp3
  refine wpAny_pure (wpAny_pure ?_)
  show wpAny _ _ (newTuple [x1, x2, x3] >>= _) _ _ ⟨p3, g, d, tk3, os⟩
  refine wpAny_bind (wpAny_newTuple ?_)
  have hsz : p3.objs.size = hp.objs.size := by rw [hp3.1, hp2.1, hp1.1, hs0.1]
  have hzz : IsZipHeld p3 z TI TO T true := hp3.extBut _ _ S.zi3 (hp2.extBut _ _ S.zi2 (hp1.extBut _ _ S.zi1 (hz0)))
  have hkk : ∀ c o, c ≠ z → c ≠ i1 → c ≠ i2 → c ≠ i3 → hp.get? c = some o → p3.get? c = some o := fun c o cz c1 c2 c3 e => hp3.extBut _ _ c3 (hp2.extBut _ _ c2 (hp1.extBut _ _ c1 (hs0.extBut _ _ cz e)))
  have hj1 : St1 (i + 1) p3 := D1.over (D1.over (sn1) hp2 S.sep2_1) hp3 S.sep3_1
  have hj2 : St2 (i + 1) p3 := D2.over (sn2) hp3 S.sep3_2
  have hj3 : St3 (i + 1) p3 := sn3
  refine wpAny_pure ⟨_, rfl, ?_⟩
  show Q (.ref p3.objs.size) ⟨p3.push { cls := .type "tuple", data := .seq #[x1, x2, x3] }, g, d, tk3, os⟩
  have hp' : IsTupOf3 (p3.push { cls := .type "tuple", data := .seq #[x1, x2, x3] }) p3.objs.size x1 x2 x3 := Heap.get?_push_size _ rfl
  have hz4 : (p3.push { cls := .type "tuple", data := .seq #[x1, x2, x3] }).objs.size = p3.objs.size + 1 := Heap.size_push ..
  rw [hsz] at hp' hz4 ⊢
  exact hQ x1 x2 x3 _ tk3 hx1 hx2 hx3 (Heap.get?_push_of_some _ hzz) (D1.frame _ _ _ hj1 fun b hb o e => Heap.get?_push_of_some _ e) (D2.frame _ _ _ hj2 fun b hb o e => Heap.get?_push_of_some _ e) (D3.frame _ _ _ hj3 fun b hb o e => Heap.get?_push_of_some _ e) hp' hz4 fun c o cz c1 c2 c3 e => Heap.get?_push_of_some _ (hkk c o cz c1 c2 c3 e)
theorem zipH3_end {Q : Fin → Shared → Prop} (S : ZipSep3 z TI TO i1 i2 i3 fp1 fp2 fp3) (D1 : Draws prog w A i1 fp1 n1 P1 St1) (D2 : Draws prog w A i2 fp2 n2 P2 St2) (D3 : Draws prog w A i3 fp3 n3 P3 St3)
    (hz : IsZipHeld s.heap z TI TO T f) (hT : s.heap.get? T = some oT) (hTI : IsTupOf3 s.heap TI (.ref i1) (.ref i2) (.ref i3)) (st1 : St1 i s.heap) (st2 : St2 i s.heap) (st3 : St3 i s.heap) (hle1 : i ≤ n1) (hle2 : i ≤ n2) (hle3 : i ≤ n3) (hend : i = n1 ∨ i = n2 ∨ i = n3)
    (hE : ∀ h' tk e, (∀ c o, c ≠ z → c ≠ i1 → c ≠ i2 → c ≠ i3 → s.heap.get? c = some o → h'.get? c = some o) → (∃ o, h'.get? e = some o ∧ o.cls = .type "StopIteration") → E (.ref e) { s with heap := h', toks := tk }) :
    wpAny (model prog w) A (Builtin.«zip.__next__» ⟨[.ref z], []⟩) Q E s := by
  obtain ⟨hp, g, d, tk0, os⟩ := s
  show wpAny _ _ (field (.ref z) 2 >>= _) _ _ _
  refine wpAny_bind (wpAny_field hz rfl (x := .bool false) rfl ?_)
  show wpAny _ _ (field (.ref z) 3 >>= _) _ _ _
  refine wpAny_bind (wpAny_field hz rfl (x := .ref TI) rfl ?_)
  refine wpAny_bind (wpAny_seqItems hTI rfl ?_)
  show wpAny _ _ (Builtin.SmallTypes.ownedTupleIsFree (.ref z) >>= _) _ _ _
  refine wpAny_bind (wpAny_tupleHeld_zip hz hT fun g0 hz0 hs0 => ?_)
  replace hs0 : Heap.SameBut z hp g0 := hs0
  simp only [Bool.false_eq_true, if_false]
  refine wpAny_bind ?_
  rw [← Array.forIn_toList]
  simp only [List.forIn_cons, List.forIn_nil]
  refine wpAny_bind (wpAny_bind (wpAny_holding ?_))
  show wpAny _ _ (Builtin.SmallTypes.nextOf (.ref i1) >>= _) _ _ ⟨g0, g, d, tk0, os⟩
  by_cases hlt1 : i < n1
  · refine wpAny_bind (D1.item i ⟨g0, g, d, tk0, os⟩ _ _ hlt1 (D1.over st1 hs0 S.zf1) fun x1 p1 tk1 hx1 sn1 hp1 => wpAny_pure ?_)
    replace hp1 : Heap.SameBut i1 g0 p1 := hp1
    refine wpAny_pure ?_
    refine wpAny_bind (wpAny_bind (wpAny_holding ?_))
    show wpAny _ _ (Builtin.SmallTypes.nextOf (.ref i2) >>= _) _ _ ⟨p1, g, d, tk1, os⟩
    by_cases hlt2 : i < n2
    · refine wpAny_bind (D2.item i ⟨p1, g, d, tk1, os⟩ _ _ hlt2 (D2.over (D2.over st2 hs0 S.zf2) hp1 S.sep1_2) fun x2 p2 tk2 hx2 sn2 hp2 => wpAny_pure ?_)
      replace hp2 : Heap.SameBut i2 p1 p2 := hp2
      refine wpAny_pure ?_
      refine wpAny_bind (wpAny_bind (wpAny_holding ?_))
      show wpAny _ _ (Builtin.SmallTypes.nextOf (.ref i3) >>= _) _ _ ⟨p2, g, d, tk2, os⟩
      have hi3 : i = n3 := by omega
      refine wpAny_bind (D3.done ⟨p2, g, d, tk2, os⟩ _ _ (by rw [← hi3]; exact (D3.over (D3.over (D3.over st3 hs0 S.zf3) hp1 S.sep1_3) hp2 S.sep2_3)) fun q e hq he => ?_)
      exact hE q tk2 e (fun c o cz c1 c2 c3 x => hq _ _ c3 (hp2.extBut _ _ c2 (hp1.extBut _ _ c1 (hs0.extBut _ _ cz x)))) he
    · have hi2 : i = n2 := by omega
      refine wpAny_bind (D2.done ⟨p1, g, d, tk1, os⟩ _ _ (by rw [← hi2]; exact (D2.over (D2.over st2 hs0 S.zf2) hp1 S.sep1_2)) fun q e hq he => ?_)
      exact hE q tk1 e (fun c o cz c1 c2 c3 x => hq _ _ c2 (hp1.extBut _ _ c1 (hs0.extBut _ _ cz x))) he
  · have hi1 : i = n1 := by omega
    refine wpAny_bind (D1.done ⟨g0, g, d, tk0, os⟩ _ _ (by rw [← hi1]; exact (D1.over st1 hs0 S.zf1)) fun q e hq he => ?_)
    exact hE q tk0 e (fun c o cz c1 c2 c3 x => hq _ _ c1 (hs0.extBut _ _ cz x)) he
theorem zipH3_next_item {Q : Option Value → Shared → Prop} (S : ZipSep3 z TI TO i1 i2 i3 fp1 fp2 fp3) (D1 : Draws prog w A.in1 i1 fp1 n1 P1 St1) (D2 : Draws prog w A.in1 i2 fp2 n2 P2 St2) (D3 : Draws prog w A.in1 i3 fp3 n3 P3 St3)
    (hz : IsZipHeld s.heap z TI TO T f) (hT : s.heap.get? T = some oT) (hTI : IsTupOf3 s.heap TI (.ref i1) (.ref i2) (.ref i3)) (st1 : St1 i s.heap) (st2 : St2 i s.heap) (st3 : St3 i s.heap) (hlt1 : i < n1) (hlt2 : i < n2) (hlt3 : i < n3)
    (hQ : ∀ x1 x2 x3 h' tk, P1 i x1 → P2 i x2 → P3 i x3 → IsZipHeld h' z TI TO T true → St1 (i + 1) h' → St2 (i + 1) h' → St3 (i + 1) h' → IsTupOf3 h' s.heap.objs.size x1 x2 x3 → h'.objs.size = s.heap.objs.size + 1 →
      (∀ c o, c ≠ z → c ≠ i1 → c ≠ i2 → c ≠ i3 → s.heap.get? c = some o → h'.get? c = some o) → Q (some (.ref s.heap.objs.size)) { s with heap := h', toks := tk }) :
    wpAny (model prog w) A (pyNext (.ref z)) Q E s := by
  have hTy : s.TypeIs (.ref z) "zip" := ⟨_, hz, rfl⟩
  unfold pyNext
  exact wpAny_bind (wpAny_attempt (wpAny_callSpecial?_slot (name := Str.ofString "__next__") hTy F.slot_zip_next
    (wpAny_call_entry F.slot_zip_next hTy F.entry_zip_next
      (zipH3_item S D1 D2 D3 hz hT hTI st1 st2 st3 hlt1 hlt2 hlt3 fun x1 x2 x3 h' tk a1 a2 a3 a4 a5 a6 a7 a8 a9 a10 => wpAny_pure (hQ x1 x2 x3 h' tk a1 a2 a3 a4 a5 a6 a7 a8 a9 a10)) (F.args_zip_next_1 _))))
theorem zipH3_next_end {Q : Option Value → Shared → Prop} (S : ZipSep3 z TI TO i1 i2 i3 fp1 fp2 fp3) (D1 : Draws prog w A.in1 i1 fp1 n1 P1 St1) (D2 : Draws prog w A.in1 i2 fp2 n2 P2 St2) (D3 : Draws prog w A.in1 i3 fp3 n3 P3 St3)
    (hz : IsZipHeld s.heap z TI TO T f) (hT : s.heap.get? T = some oT) (hTI : IsTupOf3 s.heap TI (.ref i1) (.ref i2) (.ref i3)) (st1 : St1 i s.heap) (st2 : St2 i s.heap) (st3 : St3 i s.heap) (hle1 : i ≤ n1) (hle2 : i ≤ n2) (hle3 : i ≤ n3) (hend : i = n1 ∨ i = n2 ∨ i = n3)
    (hQ : ∀ h' tk, (∀ c o, c ≠ z → c ≠ i1 → c ≠ i2 → c ≠ i3 → s.heap.get? c = some o → h'.get? c = some o) → Q none { s with heap := h', toks := tk }) : wpAny (model prog w) A (pyNext (.ref z)) Q E s := by
  have hTy : s.TypeIs (.ref z) "zip" := ⟨_, hz, rfl⟩
  unfold pyNext
  refine wpAny_bind (wpAny_attempt (wpAny_callSpecial?_slot (name := Str.ofString "__next__") hTy F.slot_zip_next
    (wpAny_call_entry F.slot_zip_next hTy F.entry_zip_next (zipH3_end S D1 D2 D3 hz hT hTI st1 st2 st3 hle1 hle2 hle3 hend fun h' tk e hk he => ?_) (F.args_zip_next_1 _))))
  obtain ⟨o, ho, hc⟩ := he
  refine wpAny_bind (wpAny_isInstance (T := "StopIteration") (b := true) ⟨o, ho, hc⟩ isSubtype_stop ?_)
  exact wpAny_pure (hQ _ tk hk)
end

/-- a zip before turn i, the tuple that was given out held or none -/
def ZS3 (z TI TO i1 i2 i3 L : Addr) (St1 St2 St3 : Nat → Heap → Prop) (i : Nat) (h : Heap) : Prop :=
  IsTupOf3 h TI (.ref i1) (.ref i2) (.ref i3) ∧ St1 i h ∧ St2 i h ∧ St3 i h ∧ ((IsZip h z TI TO .none ∧ ∃ a1 a2 a3, IsTupOf3 h TO a1 a2 a3) ∨ ∃ T f oT, IsZipHeld h z TI TO T f ∧ h.get? T = some oT ∧ T ≠ z ∧ T ≠ TO ∧ T ≠ i1 ∧ T ≠ i2 ∧ T ≠ i3 ∧ T ≠ L)
/-- the items that were given out -/
def ZI3 (N : Nat) (z TO i1 i2 i3 L : Addr) (P1 P2 P3 : Nat → Value → Prop) (acc : Array Value) (h : Heap) : Prop :=
  acc.toList.Nodup ∧ ∀ j v, acc[j]? = some v → ∃ T x1 x2 x3, v = .ref T ∧ P1 j x1 ∧ P2 j x2 ∧ P3 j x3 ∧ (IsTupOf3 h T x1 x2 x3 ∧ N ≤ T) ∧ T ≠ z ∧ T ≠ TO ∧ T ≠ i1 ∧ T ≠ i2 ∧ T ≠ i3 ∧ T ≠ L
section
variable {prog : Program} {w : World} {A : Around} {E : Value → Shared → Prop} {s : Shared} {z TI TO i1 i2 i3 L : Addr} {fp1 fp2 fp3 : List Addr} {n1 n2 n3 i : Nat} {P1 P2 P3 : Nat → Value → Prop} {St1 St2 St3 : Nat → Heap → Prop}
theorem ZS3.stay (S : ZipSep3 z TI TO i1 i2 i3 fp1 fp2 fp3) (D1 : Draws prog w A i1 fp1 n1 P1 St1) (D2 : Draws prog w A i2 fp2 n2 P2 St2) (D3 : Draws prog w A i3 fp3 n3 P3 St3) (Lz : L ≠ z) (LTI : L ≠ TI) (LTO : L ≠ TO) (Lf1 : L ∉ fp1) (Lf2 : L ∉ fp2) (Lf3 : L ∉ fp3) {h h' : Heap} (x : ZS3 z TI TO i1 i2 i3 L St1 St2 St3 i h) (e : ∀ b o, b ≠ L → h.get? b = some o → h'.get? b = some o) : ZS3 z TI TO i1 i2 i3 L St1 St2 St3 i h' := by
  obtain ⟨hTI, st1, st2, st3, hz⟩ := x
  refine ⟨e _ _ (Ne.symm LTI) hTI, D1.frame _ _ _ st1 fun b hb o q => e b o (fun y => Lf1 (y ▸ hb)) q, D2.frame _ _ _ st2 fun b hb o q => e b o (fun y => Lf2 (y ▸ hb)) q, D3.frame _ _ _ st3 fun b hb o q => e b o (fun y => Lf3 (y ▸ hb)) q, ?_⟩
  rcases hz with ⟨hz, a1, a2, a3, hTO⟩ | ⟨T, f, oT, hz, hT, r⟩
  · exact .inl ⟨e _ _ (Ne.symm Lz) hz, a1, a2, a3, e _ _ (Ne.symm LTO) hTO⟩
  · exact .inr ⟨T, f, oT, e _ _ (Ne.symm Lz) hz, e _ _ (r.2.2.2.2.2) hT, r⟩
theorem ZS3.next {Q : Option Value → Shared → Prop} (S : ZipSep3 z TI TO i1 i2 i3 fp1 fp2 fp3) (D1 : Draws prog w A.in1 i1 fp1 n1 P1 St1) (D2 : Draws prog w A.in1 i2 fp2 n2 P2 St2) (D3 : Draws prog w A.in1 i3 fp3 n3 P3 St3) (hi : i < min (min n1 n2) n3) (x : ZS3 z TI TO i1 i2 i3 L St1 St2 St3 i s.heap) (hL : L < s.heap.objs.size)
    (lt : z < s.heap.objs.size ∧ TO < s.heap.objs.size ∧ i1 < s.heap.objs.size ∧ i2 < s.heap.objs.size ∧ i3 < s.heap.objs.size)
    (hQ : ∀ x1 x2 x3 h' tk, P1 i x1 → P2 i x2 → P3 i x3 → ZS3 z TI TO i1 i2 i3 L St1 St2 St3 (i + 1) h' → IsTupOf3 h' s.heap.objs.size x1 x2 x3 → h'.objs.size = s.heap.objs.size + 1 →
      (∀ c o, c ≠ z → c ≠ TO → c ≠ i1 → c ≠ i2 → c ≠ i3 → s.heap.get? c = some o → h'.get? c = some o) → Q (some (.ref s.heap.objs.size)) { s with heap := h', toks := tk }) : wpAny (model prog w) A (pyNext (.ref z)) Q E s := by
  obtain ⟨hTI, st1, st2, st3, hz⟩ := x
  have hlt1 : i < n1 := by omega
  have hlt2 : i < n2 := by omega
  have hlt3 : i < n3 := by omega
  rcases hz with ⟨hz, a1, a2, a3, hTO⟩ | ⟨T, f, oT, hz, hT, r⟩
  · refine wpAny_pyNext_zipD3_item S D1 D2 D3 hz hTI hTO st1 st2 st3 hlt1 hlt2 hlt3 fun x1 x2 x3 h' tk q1 q2 q3 hz' hTO' s1 s2 s3 hp hs hk => ?_
    refine hQ x1 x2 x3 h' tk q1 q2 q3 ⟨hk _ _ S.TIz S.TITO S.TIi1 S.TIi2 S.TIi3 hTI, s1, s2, s3, .inr ⟨s.heap.objs.size, false, _, hz', hp, Nat.ne_of_gt lt.1, Nat.ne_of_gt lt.2.1, Nat.ne_of_gt lt.2.2.1, Nat.ne_of_gt lt.2.2.2.1, Nat.ne_of_gt lt.2.2.2.2, Nat.ne_of_gt hL⟩⟩ hp hs hk
  · refine zipH3_next_item S D1 D2 D3 hz hT hTI st1 st2 st3 hlt1 hlt2 hlt3 fun x1 x2 x3 h' tk q1 q2 q3 hz' s1 s2 s3 hp hs hk => ?_
    refine hQ x1 x2 x3 h' tk q1 q2 q3 ⟨hk _ _ S.TIz S.TIi1 S.TIi2 S.TIi3 hTI, s1, s2, s3, .inr ⟨T, true, oT, hz', hk _ _ r.1 r.2.2.1 r.2.2.2.1 r.2.2.2.2.1 hT, r⟩⟩ hp hs fun c o cz _ c1 c2 c3 e => hk c o cz c1 c2 c3 e
theorem ZS3.stop {Q : Option Value → Shared → Prop} (S : ZipSep3 z TI TO i1 i2 i3 fp1 fp2 fp3) (D1 : Draws prog w A.in1 i1 fp1 n1 P1 St1) (D2 : Draws prog w A.in1 i2 fp2 n2 P2 St2) (D3 : Draws prog w A.in1 i3 fp3 n3 P3 St3) (hi : i = min (min n1 n2) n3) (x : ZS3 z TI TO i1 i2 i3 L St1 St2 St3 i s.heap)
    (hQ : ∀ h' tk, (∀ c o, c ≠ z → c ≠ TO → c ≠ i1 → c ≠ i2 → c ≠ i3 → s.heap.get? c = some o → h'.get? c = some o) → Q none { s with heap := h', toks := tk }) : wpAny (model prog w) A (pyNext (.ref z)) Q E s := by
  obtain ⟨hTI, st1, st2, st3, hz⟩ := x
  rcases hz with ⟨hz, a1, a2, a3, hTO⟩ | ⟨T, f, oT, hz, hT, r⟩
  · exact wpAny_pyNext_zipD3_end S D1 D2 D3 hz hTI hTO st1 st2 st3 (by omega) (by omega) (by omega) (by omega) fun h' tk hk => hQ h' tk hk
  · exact zipH3_next_end S D1 D2 D3 hz hT hTI st1 st2 st3 (by omega) (by omega) (by omega) (by omega) fun h' tk hk => hQ h' tk fun c o cz _ c1 c2 c3 e => hk c o cz c1 c2 c3 e
/-- the loop of list(zip(..)) -/
theorem zip3_loop {R : Result → Shared → Prop} (S : ZipSep3 z TI TO i1 i2 i3 fp1 fp2 fp3) (D1 : Draws prog w A.in1.in1 i1 fp1 n1 P1 St1) (D2 : Draws prog w A.in1.in1 i2 fp2 n2 P2 St2) (D3 : Draws prog w A.in1.in1 i3 fp3 n3 P3 St3) (hn : min (min n1 n2) n3 ≤ sizeLine) (Lz : L ≠ z) (LTI : L ≠ TI) (LTO : L ≠ TO) (Lf1 : L ∉ fp1) (Lf2 : L ∉ fp2) (Lf3 : L ∉ fp3) (res : Value) (N : Nat) :
    ∀ (k i : Nat) (s : Shared) (acc : Array Value) (c : Nat), N ≤ s.heap.objs.size → min (min n1 n2) n3 - i = k → i ≤ min (min n1 n2) n3 → ZS3 z TI TO i1 i2 i3 L St1 St2 St3 i s.heap → (z < s.heap.objs.size ∧ TO < s.heap.objs.size ∧ i1 < s.heap.objs.size ∧ i2 < s.heap.objs.size ∧ i3 < s.heap.objs.size) →
      s.heap.get? L = some { cls := .type "list", dict := none, data := .seq acc c, slots := #[] } → acc.size = i → ZI3 N z TO i1 i2 i3 L P1 P2 P3 acc s.heap →
      (∀ h' tk acc' c', (∀ b o, b ≠ L → b ≠ z → b ≠ TO → b ≠ i1 → b ≠ i2 → b ≠ i3 → s.heap.get? b = some o → h'.get? b = some o) → h'.get? L = some { cls := .type "list", dict := none, data := .seq acc' c', slots := #[] } → acc'.size = min (min n1 n2) n3 → ZI3 N z TO i1 i2 i3 L P1 P2 P3 acc' h' →
        R (.ok (.ret res)) { s with heap := h', toks := tk }) →
      codeAny (model prog w) A (.builtin "list.extend.loop" ⟨[.ref L, .ref z, res], []⟩) R s := by
  intro k
  induction k with
  | zero =>
    intro i s acc c hN hk hi x lt hL hacc hZ hR
    have hin : i = min (min n1 n2) n3 := by omega
    refine codeAny_builtin F.entry_extend_loop ?_
    rw [Around.under_plainId F.plain_extend_loop _]
    show wpAny _ A.in1 (pyNext (.ref z) >>= _) _ _ s
    refine wpAny_bind (ZS3.stop S D1 D2 D3 hin x fun h' tk hk => wpAny_pure ?_)
    have hLL := hk L _ Lz LTO (fun e => Lf1 (e ▸ S.mem1)) (fun e => Lf2 (e ▸ S.mem2)) (fun e => Lf3 (e ▸ S.mem3)) hL
    refine hR h' tk acc c (fun b o _ => hk b o) hLL (hacc.trans hin) ⟨hZ.1, fun j v hj => ?_⟩
    obtain ⟨T, x1, x2, x3, e, p1, p2, p3, ht, r⟩ := hZ.2 j v hj
    exact ⟨T, x1, x2, x3, e, p1, p2, p3, ⟨hk _ _ r.1 r.2.1 r.2.2.1 r.2.2.2.1 r.2.2.2.2.1 ht.1, ht.2⟩, r⟩
  | succ k ih =>
    intro i s acc c hN hk hi x lt hL hacc hZ hR
    have hlt : i < min (min n1 n2) n3 := by omega
    refine codeAny_builtin F.entry_extend_loop ?_
    rw [Around.under_plainId F.plain_extend_loop _]
    show wpAny _ A.in1 (pyNext (.ref z) >>= _) _ _ s
    refine wpAny_bind (ZS3.next S D1 D2 D3 hlt x (Heap.lt_size hL) lt fun x1 x2 x3 h' tk q1 q2 q3 x' hp hs hk => ?_)
    have hLL := hk L _ Lz LTO (fun e => Lf1 (e ▸ S.mem1)) (fun e => Lf2 (e ▸ S.mem2)) (fun e => Lf3 (e ▸ S.mem3)) hL
    show wpAny _ A.in1 (updateSeq L (·.push (.ref s.heap.objs.size)) >>= _) _ _ _
    refine wpAny_bind ?_
    have oth : ∀ b o, b ≠ L → h'.get? b = some o → (h'.update L (Obj.mapSeq (·.push (.ref s.heap.objs.size)))).get? b = some o := fun b o hb e => (Heap.get?_update_other _ _ (Ne.symm hb)).trans e
    have szu : (h'.update L (Obj.mapSeq (·.push (.ref s.heap.objs.size)))).objs.size = h'.objs.size := Heap.size_update ..
    refine wpAny_updateSeq hLL rfl (wpAny_pure ⟨plainId_quiet F.plain_extend_loop _, ih (i + 1) _ (acc.push (.ref s.heap.objs.size)) _ (by show N ≤ (h'.update L _).objs.size; rw [szu, hs]; omega) (by omega) hlt (ZS3.stay S D1 D2 D3 Lz LTI LTO Lf1 Lf2 Lf3 x' oth) ?_ (Heap.get?_update_self _ hLL rfl) (by rw [Array.size_push, hacc]) ⟨?_, fun j v hj => ?_⟩ fun h2 tk2 acc' c' hk2 hL2 hs2 hZ2 => ?_⟩)
      (by rw [hacc]; omega) (by show (acc.push _).size ≤ sizeLine + 1; rw [Array.size_push, hacc]; omega)
    · show z < (h'.update L (Obj.mapSeq (·.push (.ref s.heap.objs.size)))).objs.size ∧ TO < (h'.update L (Obj.mapSeq (·.push (.ref s.heap.objs.size)))).objs.size ∧ i1 < (h'.update L (Obj.mapSeq (·.push (.ref s.heap.objs.size)))).objs.size ∧ i2 < (h'.update L (Obj.mapSeq (·.push (.ref s.heap.objs.size)))).objs.size ∧ i3 < (h'.update L (Obj.mapSeq (·.push (.ref s.heap.objs.size)))).objs.size
      rw [szu, hs]
      exact ⟨Nat.lt_succ_of_lt lt.1, Nat.lt_succ_of_lt lt.2.1, Nat.lt_succ_of_lt lt.2.2.1, Nat.lt_succ_of_lt lt.2.2.2.1, Nat.lt_succ_of_lt lt.2.2.2.2⟩
    · rw [Array.toList_push]
      refine List.nodup_append.mpr ⟨hZ.1, by simp, fun a ha b hb e => ?_⟩
      subst e
      have eb := List.mem_singleton.mp hb
      obtain ⟨j, hj⟩ := List.getElem?_of_mem ha
      obtain ⟨T, y1, y2, y3, e, p1, p2, p3, ht, r⟩ := hZ.2 j a (by simpa using hj)
      rw [eb] at e
      injection e with e
      exact Nat.lt_irrefl _ (e ▸ Heap.lt_size ht.1)
    · show ∃ T x1 x2 x3, v = .ref T ∧ P1 j x1 ∧ P2 j x2 ∧ P3 j x3 ∧ (IsTupOf3 (h'.update L (Obj.mapSeq (·.push (.ref s.heap.objs.size)))) T x1 x2 x3 ∧ N ≤ T) ∧ T ≠ z ∧ T ≠ TO ∧ T ≠ i1 ∧ T ≠ i2 ∧ T ≠ i3 ∧ T ≠ L
      rw [Array.getElem?_push] at hj
      split at hj
      · rename_i e
        cases hj
        rw [hacc] at e
        subst e
        exact ⟨_, x1, x2, x3, rfl, q1, q2, q3, ⟨oth _ _ (Nat.ne_of_gt (Heap.lt_size hL)) hp, hN⟩, Nat.ne_of_gt lt.1, Nat.ne_of_gt lt.2.1, Nat.ne_of_gt lt.2.2.1, Nat.ne_of_gt lt.2.2.2.1, Nat.ne_of_gt lt.2.2.2.2, Nat.ne_of_gt (Heap.lt_size hL)⟩
      · obtain ⟨T, y1, y2, y3, e, p1, p2, p3, ht, r⟩ := hZ.2 j v hj
        exact ⟨T, y1, y2, y3, e, p1, p2, p3, ⟨oth _ _ (r.2.2.2.2.2) (hk _ _ r.1 r.2.1 r.2.2.1 r.2.2.2.1 r.2.2.2.2.1 ht.1), ht.2⟩, r⟩
    · exact hR h2 tk2 acc' c' (fun b o bL bz bT b1 b2 b3 e => hk2 b o bL bz bT b1 b2 b3 (oth b o bL (hk b o bz bT b1 b2 b3 e))) hL2 hs2 hZ2
theorem zip3_init {R : Result → Shared → Prop} (S : ZipSep3 z TI TO i1 i2 i3 fp1 fp2 fp3) (D1 : Draws prog w A.in1.in1 i1 fp1 n1 P1 St1) (D2 : Draws prog w A.in1.in1 i2 fp2 n2 P2 St2) (D3 : Draws prog w A.in1.in1 i3 fp3 n3 P3 St3) (hn : min (min n1 n2) n3 ≤ sizeLine) (Lz : L ≠ z) (LTI : L ≠ TI) (LTO : L ≠ TO) (Lf1 : L ∉ fp1) (Lf2 : L ∉ fp2) (Lf3 : L ∉ fp3)
    (hz : IsZip s.heap z TI TO .none) (hTI : IsTupOf3 s.heap TI (.ref i1) (.ref i2) (.ref i3)) (hTO : ∃ a1 a2 a3, IsTupOf3 s.heap TO a1 a2 a3) (st1 : St1 0 s.heap) (st2 : St2 0 s.heap) (st3 : St3 0 s.heap) (lt : z < s.heap.objs.size ∧ TO < s.heap.objs.size ∧ i1 < s.heap.objs.size ∧ i2 < s.heap.objs.size ∧ i3 < s.heap.objs.size)
    (hL : s.heap.get? L = some { cls := .type "list", data := .seq #[] }) (N : Nat) (hN : N ≤ s.heap.objs.size)
    (hR : ∀ h' tk acc' c', (∀ b o, b ≠ L → b ≠ z → b ≠ TO → b ≠ i1 → b ≠ i2 → b ≠ i3 → s.heap.get? b = some o → h'.get? b = some o) → h'.get? L = some { cls := .type "list", dict := none, data := .seq acc' c', slots := #[] } → acc'.size = min (min n1 n2) n3 → ZI3 N z TO i1 i2 i3 L P1 P2 P3 acc' h' →
        R (.ok (.ret .none)) { s with heap := h', toks := tk }) :
    wpAny (model prog w) A.in1 (Builtin.«list.__init__» ⟨[.ref L, .ref z], []⟩)
      (fun fin s' => match fin with | .done f => R (.ok f) s' | .again c' => c'.quiet = true ∧ codeAny (model prog w) A c' R s') (fun e s' => R (.error e) s') s := by
  show wpAny _ A.in1 (do let old ← Builtin.List.listItems (.ref L); Builtin.List.listUpdate (.ref L) (fun _ => #[]); letGo old.toList.reverse; Builtin.List.listExtendWith (.ref L) (.ref z) .none) _ _ s
  refine wpAny_bind ?_
  unfold Builtin.List.listItems
  refine wpAny_bind (wpAny_seqItems hL rfl (wpAny_pure ?_))
  show wpAny _ A.in1 (updateSeq L (fun _ => #[]) >>= fun _ => letGo (#[] : Array Value).toList.reverse >>= fun _ => Builtin.List.listExtendWith (.ref L) (.ref z) .none) _ _ s
  refine wpAny_bind (wpAny_updateSeq hL rfl ?_)
  have hL1 := Heap.get?_update_self (Obj.mapSeq (fun _ => (#[] : Array Value))) hL rfl
  have o1 : ∀ b o, b ≠ L → s.heap.get? b = some o → (s.heap.update L (Obj.mapSeq (fun _ => (#[] : Array Value)))).get? b = some o :=
    fun b o hb e => (Heap.get?_update_other _ _ (Ne.symm hb)).trans e
  refine wpAny_bind (wpAny_letGo ?_)
  generalize hh1 : s.heap.update L (Obj.mapSeq (fun _ => (#[] : Array Value))) = h1 at hL1 o1
  have sz1 : h1.objs.size = s.heap.objs.size := by rw [← hh1]; exact Heap.size_update ..
  have hz1 := o1 _ _ (Ne.symm Lz) hz
  have hTy : ({ s with heap := h1 } : Shared).TypeIs (.ref z) "zip" := ⟨_, hz1, rfl⟩
  unfold Builtin.List.listExtendWith
  refine wpAny_bind (wpAny_typeOf hTy ?_)
  have e1 : Builtin.List.listSameRef (.ref L) (.ref z) = false := by simp [Builtin.List.listSameRef, Lz]
  have e2 : (Value.type "zip" == Value.type "list") = false := by decide
  have e3 : (Value.type "zip" == Value.type "tuple") = false := by decide
  simp only [e1, e2, e3, Bool.or_false, Bool.false_eq_true, if_false]
  refine wpAny_bind (wpAny_pyIter_zip hz1 ?_)
  refine wpAny_bind (wpAny_holding ?_)
  unfold Builtin.List.listLengthHint
  refine wpAny_bind (wpAny_specialOf hTy zip_no_len ?_)
  show wpAny _ A.in1 (specialOf (Value.ref z) (Str.ofString "__length_hint__") >>= _) _ _ _
  refine wpAny_bind (wpAny_specialOf hTy zip_no_hint ?_)
  refine wpAny_pure ?_
  show wpAny _ A.in1 (rule "list.extend.makes-room" >>= fun _ => Builtin.List.listTouch (.ref L) >>= fun _ =>
    again (.builtin "list.extend.loop" ⟨[.ref L, .ref z, .none], []⟩)) _ _ _
  refine wpAny_bind (wpAny_rule ?_)
  refine wpAny_bind ?_
  show wpAny _ A.in1 (updateSeq L (·.push .none) >>= fun _ => updateSeq L (·.pop)) _ _ _
  refine wpAny_bind (wpAny_updateSeq hL1 rfl ?_)
  have hL2 := Heap.get?_update_self (Obj.mapSeq (·.push Value.none)) hL1 rfl
  refine wpAny_updateSeq (hz := by seq_fits) hL2 rfl ?_
  have hL3 := Heap.get?_update_self (Obj.mapSeq (·.pop)) hL2 rfl
  have o2 : ∀ b o, b ≠ L → s.heap.get? b = some o → ((h1.update L (Obj.mapSeq (·.push Value.none))).update L (Obj.mapSeq (·.pop))).get? b = some o :=
    fun b o hb e => (Heap.get?_update_other _ _ (Ne.symm hb)).trans ((Heap.get?_update_other _ _ (Ne.symm hb)).trans (o1 b o hb e))
  have sz2 : ((h1.update L (Obj.mapSeq (·.push Value.none))).update L (Obj.mapSeq (·.pop))).objs.size = s.heap.objs.size := by rw [← sz1]; exact (Heap.size_update ..).trans (Heap.size_update ..)
  have x0 : ZS3 z TI TO i1 i2 i3 L St1 St2 St3 0 s.heap := ⟨hTI, st1, st2, st3, .inl ⟨hz, hTO⟩⟩
  refine wpAny_pure ⟨plainId_quiet F.plain_extend_loop _, zip3_loop S D1 D2 D3 hn Lz LTI LTO Lf1 Lf2 Lf3 .none N (min (min n1 n2) n3) 0 _ #[] _ (by show N ≤ ((h1.update L _).update L _).objs.size; rw [sz2]; exact hN) rfl (Nat.zero_le _) (ZS3.stay S D1 D2 D3 Lz LTI LTO Lf1 Lf2 Lf3 x0 o2) ?_ hL3 rfl ⟨by simp, fun j v hj => by simp at hj⟩ fun h' tk acc' c' hk hL' hs hZ => ?_⟩
  · show z < ((h1.update L (Obj.mapSeq (·.push Value.none))).update L (Obj.mapSeq (·.pop))).objs.size ∧ TO < ((h1.update L (Obj.mapSeq (·.push Value.none))).update L (Obj.mapSeq (·.pop))).objs.size ∧ i1 < ((h1.update L (Obj.mapSeq (·.push Value.none))).update L (Obj.mapSeq (·.pop))).objs.size ∧ i2 < ((h1.update L (Obj.mapSeq (·.push Value.none))).update L (Obj.mapSeq (·.pop))).objs.size ∧ i3 < ((h1.update L (Obj.mapSeq (·.push Value.none))).update L (Obj.mapSeq (·.pop))).objs.size
    rw [sz2]
    exact lt
  · exact hR h' tk acc' c' (fun b o bL bz bT b1 b2 b3 e => hk b o bL bz bT b1 b2 b3 (o2 b o bL e)) hL' hs hZ
/-- list(zip object) -/
theorem call_list_zip3 {Q : Value → Shared → Prop} (S : ZipSep3 z TI TO i1 i2 i3 fp1 fp2 fp3) (D1 : Draws prog w A.in1.in1.in1 i1 fp1 n1 P1 St1) (D2 : Draws prog w A.in1.in1.in1 i2 fp2 n2 P2 St2) (D3 : Draws prog w A.in1.in1.in1 i3 fp3 n3 P3 St3) (hn : min (min n1 n2) n3 ≤ sizeLine)
    (hz : IsZip s.heap z TI TO .none) (hTI : IsTupOf3 s.heap TI (.ref i1) (.ref i2) (.ref i3)) (hTO : ∃ a1 a2 a3, IsTupOf3 s.heap TO a1 a2 a3) (st1 : St1 0 s.heap) (st2 : St2 0 s.heap) (st3 : St3 0 s.heap) (lt : z < s.heap.objs.size ∧ TO < s.heap.objs.size ∧ i1 < s.heap.objs.size ∧ i2 < s.heap.objs.size ∧ i3 < s.heap.objs.size) (lf1 : ∀ b ∈ fp1, b < s.heap.objs.size) (lf2 : ∀ b ∈ fp2, b < s.heap.objs.size) (lf3 : ∀ b ∈ fp3, b < s.heap.objs.size) (N : Nat) (hN : N ≤ s.heap.objs.size)
    (hQ : ∀ h' tk acc' c', (∀ b o, b ≠ z → b ≠ TO → b ≠ i1 → b ≠ i2 → b ≠ i3 → s.heap.get? b = some o → h'.get? b = some o) → h'.get? s.heap.objs.size = some { cls := .type "list", dict := none, data := .seq acc' c', slots := #[] } → acc'.size = min (min n1 n2) n3 →
      (∀ j v, acc'[j]? = some v → ∃ T x1 x2 x3, v = .ref T ∧ P1 j x1 ∧ P2 j x2 ∧ P3 j x3 ∧ IsTupOf3 h' T x1 x2 x3 ∧ N ≤ T ∧ T ≠ s.heap.objs.size) → acc'.toList.Nodup → Q (.ref s.heap.objs.size) { s with heap := h', toks := tk }) :
    wpAny (model prog w) A (call (.type "list") [.ref z]) Q E s := by
  have nz : s.heap.objs.size ≠ z := Nat.ne_of_gt lt.1
  have nTO : s.heap.objs.size ≠ TO := Nat.ne_of_gt lt.2.1
  have nTI : s.heap.objs.size ≠ TI := Nat.ne_of_gt (Heap.lt_size hTI)
  refine callType_codes (Q₁ := fun obj s₁ => obj = .ref s.heap.objs.size ∧ s₁ = { s with heap := s.heap.push { cls := .type "list", data := .seq #[] } }) F.called_list (F.typeCall_list_1 _) F.entry_list_init
    (code_list_new _ ⟨rfl, rfl⟩) fun obj s₁ h₁ => ?_
  obtain ⟨rfl, rfl⟩ := h₁
  have hL : (s.heap.push { cls := .type "list", data := .seq #[] }).get? s.heap.objs.size = some { cls := .type "list", data := .seq #[] } := Heap.get?_push_size _ rfl
  have up : ∀ b o, s.heap.get? b = some o → (s.heap.push { cls := .type "list", data := .seq #[] }).get? b = some o := fun b o e => Heap.get?_push_of_some _ e
  have szp : (s.heap.push { cls := .type "list", data := .seq #[] }).objs.size = s.heap.objs.size + 1 := Heap.size_push ..
  refine ⟨⟨_, hL, rfl⟩, F.args_list_init_2 _ _, zip3_init (s := { s with heap := s.heap.push { cls := .type "list", data := .seq #[] } }) S D1 D2 D3 hn nz nTI nTO (fun m => Nat.lt_irrefl _ (lf1 _ m)) (fun m => Nat.lt_irrefl _ (lf2 _ m)) (fun m => Nat.lt_irrefl _ (lf3 _ m)) (up _ _ hz) (up _ _ hTI) ?_ (D1.frame _ _ _ st1 fun b _ o e => up b o e) (D2.frame _ _ _ st2 fun b _ o e => up b o e) (D3.frame _ _ _ st3 fun b _ o e => up b o e) ?_ hL N (by show N ≤ (s.heap.push _).objs.size; rw [szp]; omega) fun h' tk acc' c' hk hL' hs hZ => ?_⟩
  · obtain ⟨a1, a2, a3, t⟩ := hTO
    exact ⟨a1, a2, a3, up _ _ t⟩
  · show z < (s.heap.push _).objs.size ∧ TO < (s.heap.push _).objs.size ∧ i1 < (s.heap.push _).objs.size ∧ i2 < (s.heap.push _).objs.size ∧ i3 < (s.heap.push _).objs.size
    rw [szp]
    exact ⟨Nat.lt_succ_of_lt lt.1, Nat.lt_succ_of_lt lt.2.1, Nat.lt_succ_of_lt lt.2.2.1, Nat.lt_succ_of_lt lt.2.2.2.1, Nat.lt_succ_of_lt lt.2.2.2.2⟩
  · refine ⟨rfl, hQ h' tk acc' c' (fun b o b1 b2 b3 b4 b5 e => hk b o (Nat.ne_of_lt (Heap.lt_size e)) b1 b2 b3 b4 b5 (up b o e)) hL' hs (fun j v hj => ?_) hZ.1⟩
    obtain ⟨T, x1, x2, x3, e, p1, p2, p3, ht, r⟩ := hZ.2 j v hj
    exact ⟨T, x1, x2, x3, e, p1, p2, p3, ht.1, ht.2, r.2.2.2.2.2⟩
end

end Tk

set_option Elab.async false
set_option linter.all false
set_option maxRecDepth 100000
set_option maxHeartbeats 4000000
namespace Tk
open PySem PySem.Spec PyProof.Rows L2

/-! ## data, owned trees, results -/
inductive D where
  | non | bl (b : Bool) | int (i : Int) | str (x : Str)
  | lst (xs : List D) | tup (xs : List D) | ins (c : Nat) (fs : List (Str × D)) | scr (xs : List D)
inductive O where
  | sh (d : D) | lst (xs : List O) | ins (c : Nat) (fs : List (Str × O))
abbrev Env := List (Option O)
inductive Res (α : Type) where
  | ok (a : α) (r : Env) | ex (c : Nat) (d : List (Str × D)) (r : Env) | no
namespace Res
def bind {α β : Type} (x : Res α) (k : α → Env → Res β) : Res β := match x with
  | ok a r => k a r
  | ex c d r => ex c d r
  | no => no
def map {α β : Type} (g : α → β) (x : Res α) : Res β := match x with
  | ok a r => ok (g a) r
  | ex c d r => ex c d r
  | no => no
@[simp] theorem bind_ok {α β : Type} {a : α} {r : Env} {k : α → Env → Res β} : (ok a r).bind k = k a r := rfl
@[simp] theorem bind_ex {α β : Type} {c : Nat} {d : List (Str × D)} {r : Env} {k : α → Env → Res β} : (ex c d r : Res α).bind k = ex c d r := rfl
@[simp] theorem bind_no {α β : Type} {k : α → Env → Res β} : (no : Res α).bind k = no := rfl
@[simp] theorem map_ok {α β : Type} {a : α} {r : Env} {g : α → β} : (ok a r).map g = ok (g a) r := rfl
@[simp] theorem map_ex {α β : Type} {c : Nat} {d : List (Str × D)} {r : Env} {g : α → β} : (ex c d r : Res α).map g = ex c d r := rfl
@[simp] theorem map_no {α β : Type} {g : α → β} : (no : Res α).map g = no := rfl
end Res
mutual
def frz : O → D
  | .sh d => d
  | .lst xs => .lst (frzs xs)
  | .ins c fs => .ins c (frzF fs)
def frzs : List O → List D
  | [] => []
  | o :: os => frz o :: frzs os
def frzF : List (Str × O) → List (Str × D)
  | [] => []
  | (n, o) :: fs => (n, frz o) :: frzF fs
end
@[simp] theorem frz_sh (d : D) : frz (.sh d) = d := by simp [frz]
@[simp] theorem frz_lst (xs : List O) : frz (.lst xs) = .lst (frzs xs) := by simp [frz]
@[simp] theorem frzs_nil : frzs [] = [] := by simp [frzs]
@[simp] theorem frzs_cons (o : O) (os : List O) : frzs (o :: os) = frz o :: frzs os := by simp [frzs]
theorem frzs_map : ∀ os : List O, frzs os = os.map frz
  | [] => by simp
  | o :: os => by simp [frzs_map os]
theorem frzs_sh (ds : List D) : frzs (ds.map O.sh) = ds := by
  rw [frzs_map, List.map_map]
  induction ds with
  | nil => rfl
  | cons d ds ih => simp [ih]

/-! ## what stands for data -/
mutual
inductive Rep (K : PySem.W.Frag) (cl : Nat → Addr) (F : Hp) : V → D → Prop
  | non : Rep K cl F .non .non
  | bl (b : Bool) : Rep K cl F (.bl b) (.bl b)
  | int (i : Int) : Rep K cl F (.int i) (.int i)
  | str (x : Str) : Rep K cl F (.str x) (.str x)
  | lst {a : Addr} {xs : List V} {ds : List D} : F a = some (.lst xs) → Reps K cl F xs ds → Rep K cl F (.ref a) (.lst ds)
  | scr {a : Addr} {xs : List V} {ds : List D} : SqL K F a xs → Reps K cl F xs ds → Rep K cl F (.ref a) (.scr ds)
  | tup {a : Addr} {xs : List V} {ds : List D} : SqT K F a xs → Reps K cl F xs ds → Rep K cl F (.ref a) (.tup ds)
  | ins {a dx : Addr} {c : Nat} {vs : List (Str × V)} {fs : List (Str × D)} : F a = some (.ins (cl c) dx vs) → Fds K cl F vs fs → Rep K cl F (.ref a) (.ins c fs)
inductive Reps (K : PySem.W.Frag) (cl : Nat → Addr) (F : Hp) : List V → List D → Prop
  | nil : Reps K cl F [] []
  | cons {v : V} {vs : List V} {d : D} {ds : List D} : Rep K cl F v d → Reps K cl F vs ds → Reps K cl F (v :: vs) (d :: ds)
inductive Fds (K : PySem.W.Frag) (cl : Nat → Addr) (F : Hp) : List (Str × V) → List (Str × D) → Prop
  | nil : Fds K cl F [] []
  | cons {n : Str} {v : V} {vs : List (Str × V)} {d : D} {fs : List (Str × D)} : Rep K cl F v d → Fds K cl F vs fs → Fds K cl F ((n, v) :: vs) ((n, d) :: fs)
end
section
variable {K : PySem.W.Frag} {cl : Nat → Addr} {F F' F2 H H' H2 : Hp}
theorem seqT {a : Addr} {xs : List V} (e : Same F F') (h : SqT K F a xs) : SqT K F' a xs := by
  rcases h with (h | ⟨o, h⟩) | h
  · exact .inl (.inl (e _ _ h))
  · exact .inl (.inr ⟨o, e _ _ h⟩)
  · exact .inr h
mutual
theorem Rep.mono (e : Same F F') : ∀ (d : D) {v : V}, Rep K cl F v d → Rep K cl F' v d
  | .non, _, h => by cases h; exact .non
  | .bl b, _, h => by cases h; exact .bl b
  | .int i, _, h => by cases h; exact .int i
  | .str x, _, h => by cases h; exact .str x
  | .lst ds, _, h => by
    cases h with
    | lst a b => exact .lst (e _ _ a) (Reps.mono e ds b)
  | .scr ds, _, h => by
    cases h with
    | scr a b => exact .scr (e.seq a) (Reps.mono e ds b)
  | .tup ds, _, h => by
    cases h with
    | tup a b => exact .tup (seqT e a) (Reps.mono e ds b)
  | .ins c fs, _, h => by
    cases h with
    | ins a b => exact .ins (e _ _ a) (Fds.mono e fs b)
theorem Reps.mono (e : Same F F') : ∀ (ds : List D) {vs : List V}, Reps K cl F vs ds → Reps K cl F' vs ds
  | [], _, h => by cases h; exact .nil
  | d :: ds, _, h => by
    cases h with
    | cons a b => exact .cons (Rep.mono e d a) (Reps.mono e ds b)
theorem Fds.mono (e : Same F F') : ∀ (fs : List (Str × D)) {vs : List (Str × V)}, Fds K cl F vs fs → Fds K cl F' vs fs
  | [], _, h => by cases h; exact .nil
  | (n, d) :: fs, _, h => by
    cases h with
    | cons a b => exact .cons (Rep.mono e d a) (Fds.mono e fs b)
end
theorem Reps.length : ∀ {vs : List V} {ds : List D}, Reps K cl F vs ds → vs.length = ds.length
  | _, _, .nil => rfl
  | _, _, .cons _ b => by rw [List.length_cons, List.length_cons, Reps.length b]
theorem Reps.get : ∀ {vs : List V} {ds : List D} {i : Nat} {d : D}, Reps K cl F vs ds → ds[i]? = some d → ∃ v, vs[i]? = some v ∧ Rep K cl F v d
  | _, _, i, d, .nil, h => by simp at h
  | _, _, 0, d, .cons a b, h => by
    simp at h
    subst h
    exact ⟨_, rfl, a⟩
  | _, _, i + 1, d, .cons a b, h => by
    simp at h
    obtain ⟨v, e, r⟩ := Reps.get b h
    exact ⟨v, by simpa using e, r⟩
theorem Reps.append : ∀ {vs us : List V} {ds es : List D}, Reps K cl F vs ds → Reps K cl F us es → Reps K cl F (vs ++ us) (ds ++ es)
  | _, _, _, _, .nil, h => h
  | _, _, _, _, .cons a b, h => .cons a (Reps.append b h)
theorem Reps.take : ∀ {vs : List V} {ds : List D} (n : Nat), Reps K cl F vs ds → Reps K cl F (vs.take n) (ds.take n)
  | _, _, 0, _ => by rw [List.take_zero, List.take_zero]; exact .nil
  | _, _, _ + 1, .nil => .nil
  | _, _, n + 1, .cons a b => .cons a (Reps.take n b)
theorem Reps.drop : ∀ {vs : List V} {ds : List D} (n : Nat), Reps K cl F vs ds → Reps K cl F (vs.drop n) (ds.drop n)
  | _, _, 0, h => h
  | _, _, _ + 1, .nil => .nil
  | _, _, n + 1, .cons a b => Reps.drop n b
theorem Reps.replicate {v : V} {d : D} (h : Rep K cl F v d) : ∀ n : Nat, Reps K cl F (List.replicate n v) (List.replicate n d)
  | 0 => .nil
  | n + 1 => .cons h (Reps.replicate h n)
theorem Reps.reverse {vs : List V} {ds : List D} (h : Reps K cl F vs ds) : Reps K cl F vs.reverse ds.reverse := by
  induction vs generalizing ds with
  | nil => cases h; exact .nil
  | cons v vs ih =>
    cases h with
    | cons a b =>
      rw [List.reverse_cons, List.reverse_cons]
      exact (ih b).append (.cons a .nil)
theorem Reps.cons_inv {vs : List V} {d : D} {ds : List D} (h : Reps K cl F vs (d :: ds)) : ∃ v us, vs = v :: us ∧ Rep K cl F v d ∧ Reps K cl F us ds := by
  cases h with
  | cons a b => exact ⟨_, _, rfl, a, b⟩
theorem Reps.nil_inv {vs : List V} (h : Reps K cl F vs []) : vs = [] := by
  cases h; rfl
theorem Fds.look : ∀ {vs : List (Str × V)} {fs : List (Str × D)} {n : Str} {d : D}, Fds K cl F vs fs → fs.lookup n = some d → ∃ v, vs.lookup n = some v ∧ Rep K cl F v d
  | _, _, n, d, .nil, h => by simp at h
  | _, _, n, d, .cons (n := m) (v := v) (vs := vs) (fs := fs) a b, h => by
    rw [List.lookup_cons] at h ⊢
    split at h
    · rename_i e
      injection h with h
      subst h
      exact ⟨_, rfl, a⟩
    · exact Fds.look b h

/-! ## owned trees -/
mutual
inductive ROwn (K : PySem.W.Frag) (cl : Nat → Addr) (F H : Hp) : V → O → List Addr → Prop
  | sh {v : V} {d : D} : Rep K cl F v d → ROwn K cl F H v (.sh d) []
  | lst {a : Addr} {vs : List V} {os : List O} {fp : List Addr} : H a = some (.lst vs) → F a = none → ROwns K cl F H vs os fp → ROwn K cl F H (.ref a) (.lst os) (a :: fp)
  | ins {a dx : Addr} {c : Nat} {vs : List (Str × V)} {fs : List (Str × O)} {fp : List Addr} : H a = some (.ins (cl c) dx vs) → F a = none → OFds K cl F H vs fs fp → ROwn K cl F H (.ref a) (.ins c fs) (a :: fp)
inductive ROwns (K : PySem.W.Frag) (cl : Nat → Addr) (F H : Hp) : List V → List O → List Addr → Prop
  | nil : ROwns K cl F H [] [] []
  | cons {v : V} {vs : List V} {o : O} {os : List O} {fp fq : List Addr} : ROwn K cl F H v o fp → ROwns K cl F H vs os fq → ROwns K cl F H (v :: vs) (o :: os) (fp ++ fq)
inductive OFds (K : PySem.W.Frag) (cl : Nat → Addr) (F H : Hp) : List (Str × V) → List (Str × O) → List Addr → Prop
  | nil : OFds K cl F H [] [] []
  | cons {n : Str} {v : V} {vs : List (Str × V)} {o : O} {fs : List (Str × O)} {fp fq : List Addr} : ROwn K cl F H v o fp → OFds K cl F H vs fs fq → OFds K cl F H ((n, v) :: vs) ((n, o) :: fs) (fp ++ fq)
end
mutual
theorem ROwn.mono (e : Same F F') : ∀ (o : O) {v : V} {fp : List Addr}, (∀ a ∈ fp, ∀ u, H a = some u → H' a = some u) → (∀ a ∈ fp, F a = none → F' a = none) → ROwn K cl F H v o fp → ROwn K cl F' H' v o fp
  | .sh d, _, _, _, _, h => by
    cases h with
    | sh r => exact .sh (r.mono e)
  | .lst os, _, _, hH, hF, h => by
    cases h with
    | lst a b c => exact .lst (hH _ List.mem_cons_self _ a) (hF _ List.mem_cons_self b) (ROwns.mono e os (fun x hx => hH x (List.mem_cons_of_mem _ hx)) (fun x hx => hF x (List.mem_cons_of_mem _ hx)) c)
  | .ins n fs, _, _, hH, hF, h => by
    cases h with
    | ins a b c => exact .ins (hH _ List.mem_cons_self _ a) (hF _ List.mem_cons_self b) (OFds.mono e fs (fun x hx => hH x (List.mem_cons_of_mem _ hx)) (fun x hx => hF x (List.mem_cons_of_mem _ hx)) c)
theorem ROwns.mono (e : Same F F') : ∀ (os : List O) {vs : List V} {fp : List Addr}, (∀ a ∈ fp, ∀ u, H a = some u → H' a = some u) → (∀ a ∈ fp, F a = none → F' a = none) → ROwns K cl F H vs os fp → ROwns K cl F' H' vs os fp
  | [], _, _, _, _, h => by cases h; exact .nil
  | o :: os, _, _, hH, hF, h => by
    cases h with
    | cons a b => exact .cons (ROwn.mono e o (fun x hx => hH x (List.mem_append_left _ hx)) (fun x hx => hF x (List.mem_append_left _ hx)) a) (ROwns.mono e os (fun x hx => hH x (List.mem_append_right _ hx)) (fun x hx => hF x (List.mem_append_right _ hx)) b)
theorem OFds.mono (e : Same F F') : ∀ (fs : List (Str × O)) {vs : List (Str × V)} {fp : List Addr}, (∀ a ∈ fp, ∀ u, H a = some u → H' a = some u) → (∀ a ∈ fp, F a = none → F' a = none) → OFds K cl F H vs fs fp → OFds K cl F' H' vs fs fp
  | [], _, _, _, _, h => by cases h; exact .nil
  | (n, o) :: os, _, _, hH, hF, h => by
    cases h with
    | cons a b => exact .cons (ROwn.mono e o (fun x hx => hH x (List.mem_append_left _ hx)) (fun x hx => hF x (List.mem_append_left _ hx)) a) (OFds.mono e os (fun x hx => hH x (List.mem_append_right _ hx)) (fun x hx => hF x (List.mem_append_right _ hx)) b)
end
/- all of a footprint is there, and not frozen -/
mutual
theorem ROwn.there : ∀ (o : O) {v : V} {fp : List Addr}, ROwn K cl F H v o fp → ∀ a ∈ fp, F a = none ∧ ∃ u, H a = some u
  | .sh d, _, _, h => by
    cases h with
    | sh r => intro a ha; cases ha
  | .lst os, _, _, h => by
    cases h with
    | lst a b c =>
      intro x hx
      rcases List.mem_cons.mp hx with rfl | hx
      · exact ⟨b, _, a⟩
      · exact ROwns.there os c x hx
  | .ins n fs, _, _, h => by
    cases h with
    | ins a b c =>
      intro x hx
      rcases List.mem_cons.mp hx with rfl | hx
      · exact ⟨b, _, a⟩
      · exact OFds.there fs c x hx
theorem ROwns.there : ∀ (os : List O) {vs : List V} {fp : List Addr}, ROwns K cl F H vs os fp → ∀ a ∈ fp, F a = none ∧ ∃ u, H a = some u
  | [], _, _, h => by
    cases h
    intro a ha
    cases ha
  | o :: os, _, _, h => by
    cases h with
    | cons a b =>
      intro x hx
      rcases List.mem_append.mp hx with hx | hx
      · exact ROwn.there o a x hx
      · exact ROwns.there os b x hx
theorem OFds.there : ∀ (fs : List (Str × O)) {vs : List (Str × V)} {fp : List Addr}, OFds K cl F H vs fs fp → ∀ a ∈ fp, F a = none ∧ ∃ u, H a = some u
  | [], _, _, h => by
    cases h
    intro a ha
    cases ha
  | (n, o) :: os, _, _, h => by
    cases h with
    | cons a b =>
      intro x hx
      rcases List.mem_append.mp hx with hx | hx
      · exact ROwn.there o a x hx
      · exact OFds.there os b x hx
end
/- .. frozen: it is data -/
mutual
theorem ROwn.frz (e : Same F F') : ∀ (o : O) {v : V} {fp : List Addr}, (∀ a ∈ fp, F' a = H a) → ROwn K cl F H v o fp → Rep K cl F' v (frz o)
  | .sh d, _, _, _, h => by
    cases h with
    | sh r => rw [frz_sh]; exact r.mono e
  | .lst os, _, _, hF, h => by
    cases h with
    | lst a b c =>
      rw [frz_lst]
      exact .lst ((hF _ List.mem_cons_self).trans a) (ROwns.frzs e os (fun x hx => hF x (List.mem_cons_of_mem _ hx)) c)
  | .ins n fs, _, _, hF, h => by
    cases h with
    | ins a b c =>
      rw [Tk.frz]
      exact .ins ((hF _ List.mem_cons_self).trans a) (OFds.frzF e fs (fun x hx => hF x (List.mem_cons_of_mem _ hx)) c)
theorem ROwns.frzs (e : Same F F') : ∀ (os : List O) {vs : List V} {fp : List Addr}, (∀ a ∈ fp, F' a = H a) → ROwns K cl F H vs os fp → Reps K cl F' vs (frzs os)
  | [], _, _, _, h => by cases h; rw [frzs_nil]; exact .nil
  | o :: os, _, _, hF, h => by
    cases h with
    | cons a b =>
      rw [frzs_cons]
      exact .cons (ROwn.frz e o (fun x hx => hF x (List.mem_append_left _ hx)) a) (ROwns.frzs e os (fun x hx => hF x (List.mem_append_right _ hx)) b)
theorem OFds.frzF (e : Same F F') : ∀ (fs : List (Str × O)) {vs : List (Str × V)} {fp : List Addr}, (∀ a ∈ fp, F' a = H a) → OFds K cl F H vs fs fp → Fds K cl F' vs (frzF fs)
  | [], _, _, _, h => by cases h; rw [Tk.frzF]; exact .nil
  | (n, o) :: os, _, _, hF, h => by
    cases h with
    | cons a b =>
      rw [Tk.frzF]
      exact .cons (ROwn.frz e o (fun x hx => hF x (List.mem_append_left _ hx)) a) (OFds.frzF e os (fun x hx => hF x (List.mem_append_right _ hx)) b)
end
theorem ROwns.length : ∀ {vs : List V} {os : List O} {fp : List Addr}, ROwns K cl F H vs os fp → vs.length = os.length
  | _, _, _, .nil => rfl
  | _, _, _, .cons _ b => by rw [List.length_cons, List.length_cons, ROwns.length b]
theorem ROwns.of_reps : ∀ {vs : List V} {ds : List D}, Reps K cl F vs ds → ROwns K cl F H vs (ds.map O.sh) []
  | _, _, .nil => .nil
  | _, _, .cons a b => .cons (fp := []) (fq := []) (.sh a) (ROwns.of_reps b)
theorem ROwns.append : ∀ {vs us : List V} {os ps : List O} {fp fq : List Addr}, ROwns K cl F H vs os fp → ROwns K cl F H us ps fq → ROwns K cl F H (vs ++ us) (os ++ ps) (fp ++ fq)
  | _, _, _, _, _, _, .nil, h => h
  | _, _, _, _, _, _, .cons a b, h => by
    rw [List.append_assoc]
    exact .cons a (ROwns.append b h)
theorem ROwns.get : ∀ {vs : List V} {os : List O} {fp : List Addr} {i : Nat} {o : O}, ROwns K cl F H vs os fp → os[i]? = some o → ∃ v fq, vs[i]? = some v ∧ ROwn K cl F H v o fq ∧ ∀ a ∈ fq, a ∈ fp
  | _, _, _, i, d, .nil, h => by simp at h
  | _, _, _, 0, d, .cons a b, h => by
    simp at h
    subst h
    exact ⟨_, _, rfl, a, fun x hx => List.mem_append_left _ hx⟩
  | _, _, _, i + 1, d, .cons a b, h => by
    simp at h
    obtain ⟨v, fq, e, r, s⟩ := ROwns.get b h
    exact ⟨v, fq, by simpa using e, r, fun x hx => List.mem_append_right _ (s x hx)⟩

/-! ## the environment -/
inductive REnv (K : PySem.W.Frag) (cl : Nat → Addr) (F H : Hp) : L2.St → Env → List Addr → Prop
  | nil : REnv K cl F H [] [] []
  | skip {x : Option V} {σ : L2.St} {ρ : Env} {fp : List Addr} : REnv K cl F H σ ρ fp → REnv K cl F H (x :: σ) (none :: ρ) fp
  | cons {v : V} {o : O} {σ : L2.St} {ρ : Env} {fp fq : List Addr} : ROwn K cl F H v o fp → REnv K cl F H σ ρ fq → REnv K cl F H (some v :: σ) (some o :: ρ) (fp ++ fq)
theorem REnv.mono (e : Same F F') : ∀ {σ : L2.St} {ρ : Env} {fp : List Addr}, (∀ a ∈ fp, ∀ u, H a = some u → H' a = some u) → (∀ a ∈ fp, F a = none → F' a = none) → REnv K cl F H σ ρ fp → REnv K cl F' H' σ ρ fp
  | _, _, _, _, _, .nil => .nil
  | _, _, _, hH, hF, .skip r => .skip (REnv.mono e hH hF r)
  | _, _, _, hH, hF, .cons a r => .cons (ROwn.mono e _ (fun x hx => hH x (List.mem_append_left _ hx)) (fun x hx => hF x (List.mem_append_left _ hx)) a)
      (REnv.mono e (fun x hx => hH x (List.mem_append_right _ hx)) (fun x hx => hF x (List.mem_append_right _ hx)) r)
theorem REnv.there : ∀ {σ : L2.St} {ρ : Env} {fp : List Addr}, REnv K cl F H σ ρ fp → ∀ a ∈ fp, F a = none ∧ ∃ u, H a = some u
  | _, _, _, .nil => fun a ha => nomatch ha
  | _, _, _, .skip r => REnv.there r
  | _, _, _, .cons a r => fun x hx => (List.mem_append.mp hx).elim (fun h => ROwn.there _ a x h) fun h => REnv.there r x h
theorem REnv.length : ∀ {σ : L2.St} {ρ : Env} {fp : List Addr}, REnv K cl F H σ ρ fp → σ.length = ρ.length
  | _, _, _, .nil => rfl
  | _, _, _, .skip r => by rw [List.length_cons, List.length_cons, REnv.length r]
  | _, _, _, .cons a r => by rw [List.length_cons, List.length_cons, REnv.length r]
/-- a slot is read: what stands there, and what is left of the others -/
theorem REnv.get : ∀ {σ : L2.St} {ρ : Env} {fp : List Addr} {i : Nat} {o : O}, REnv K cl F H σ ρ fp → ρ[i]? = some (some o) →
    ∃ v fq, σ[i]? = some (some v) ∧ ROwn K cl F H v o fq ∧ ∀ a ∈ fq, a ∈ fp
  | _, _, _, i, _, .nil, h => by simp at h
  | _, _, _, 0, _, .skip r, h => by simp at h
  | _, _, _, 0, _, .cons a r, h => by
    simp at h
    subst h
    exact ⟨_, _, rfl, a, fun x hx => List.mem_append_left _ hx⟩
  | _, _, _, i + 1, _, .skip r, h => by
    simp at h
    obtain ⟨v, fq, e, s, m⟩ := REnv.get r h
    exact ⟨v, fq, by simpa using e, s, m⟩
  | _, _, _, i + 1, _, .cons a r, h => by
    simp at h
    obtain ⟨v, fq, e, s, m⟩ := REnv.get r h
    exact ⟨v, fq, by simpa using e, s, fun x hx => List.mem_append_right _ (m x hx)⟩
/-- a slot is set (or wiped): what stood there is forgotten -/
theorem REnv.set {v : V} {o : O} {fv : List Addr} : ∀ {σ : L2.St} {ρ : Env} {fp : List Addr} (i : Nat), REnv K cl F H σ ρ fp → ROwn K cl F H v o fv → fp.Nodup → fv.Nodup → (∀ a ∈ fv, a ∉ fp) → i < σ.length →
    ∃ fp', REnv K cl F H (σ.set i (some v)) (ρ.set i (some o)) fp' ∧ fp'.Nodup ∧ ∀ a ∈ fp', a ∈ fp ∨ a ∈ fv
  | _, _, _, i, .nil, _, _, _, _, h => by simp at h
  | _, _, _, 0, .skip r, ro, n, nv, dj, _ => ⟨fv ++ _, .cons ro r, List.nodup_append.mpr ⟨nv, n, fun a ha b hb e => dj a ha (e ▸ hb)⟩, fun a ha => (List.mem_append.mp ha).symm⟩
  | _, _, _, 0, .cons (fp := f1) (fq := f2) s r, ro, n, nv, dj, _ => ⟨fv ++ _, .cons ro r, List.nodup_append.mpr ⟨nv, (List.nodup_append.mp n).2.1, fun a ha b hb e => dj a ha (List.mem_append_right _ (e ▸ hb))⟩,
      fun a ha => (List.mem_append.mp ha).elim .inr fun h => .inl (List.mem_append_right _ h)⟩
  | _, _, _, i + 1, .skip r, ro, n, nv, dj, h => by
    obtain ⟨fp', r', n', m⟩ := REnv.set i r ro n nv dj (by simpa using h)
    exact ⟨fp', .skip r', n', m⟩
  | _, _, _, i + 1, .cons (fp := f1) (fq := f2) s r, ro, n, nv, dj, h => by
    have nn := List.nodup_append.mp n
    obtain ⟨fp', r', n', m⟩ := REnv.set i r ro nn.2.1 nv (fun a ha hb => dj a ha (List.mem_append_right _ hb)) (by simpa using h)
    refine ⟨f1 ++ fp', .cons s r', List.nodup_append.mpr ⟨nn.1, n', fun a ha b hb e => ?_⟩, fun a ha => ?_⟩
    · subst e
      rcases m a hb with z | z
      · exact nn.2.2 a ha a z rfl
      · exact dj a z (List.mem_append_left _ ha)
    · rcases List.mem_append.mp ha with z | z
      · exact .inl (List.mem_append_left _ z)
      · rcases m a z with z | z
        · exact .inl (List.mem_append_right _ z)
        · exact .inr z
/-- an owned slot is taken apart: its own footprint, and the rest, with a hole to be filled -/
theorem REnv.hole : ∀ {σ : L2.St} {ρ : Env} {fp : List Addr} {i : Nat} {o : O}, REnv K cl F H σ ρ fp → fp.Nodup → ρ[i]? = some (some o) →
    ∃ v fo fr, σ[i]? = some (some v) ∧ ROwn K cl F H v o fo ∧ fo.Nodup ∧ (∀ a ∈ fo, a ∉ fr) ∧ (∀ a, a ∈ fp ↔ a ∈ fo ∨ a ∈ fr) ∧ fr.Nodup ∧ REnv K cl F H σ (ρ.set i none) fr
  | _, _, _, i, _, .nil, _, h => by simp at h
  | _, _, _, 0, _, .skip r, _, h => by simp at h
  | _, _, _, 0, _, .cons (fp := f1) (fq := f2) a r, n, h => by
    simp at h
    subst h
    have nn := List.nodup_append.mp n
    exact ⟨_, f1, f2, rfl, a, nn.1, fun x hx hy => nn.2.2 x hx x hy rfl, fun x => List.mem_append, nn.2.1, .skip r⟩
  | _, _, _, i + 1, _, .skip r, n, h => by
    simp at h
    obtain ⟨v, fo, fr, e, s, n1, d, m, n2, r'⟩ := REnv.hole r n h
    exact ⟨v, fo, fr, by simpa using e, s, n1, d, m, n2, .skip r'⟩
  | _, _, _, i + 1, _, .cons (fp := f1) (fq := f2) a r, n, h => by
    simp at h
    have nn := List.nodup_append.mp n
    obtain ⟨v, fo, fr, e, s, n1, d, m, n2, r'⟩ := REnv.hole r nn.2.1 h
    refine ⟨v, fo, f1 ++ fr, by simpa using e, s, n1, fun x hx hy => ?_, fun x => ?_, List.nodup_append.mpr ⟨nn.1, n2, fun x hx y hy z => ?_⟩, .cons a r'⟩
    · rcases List.mem_append.mp hy with hy | hy
      · exact nn.2.2 x hy x ((m x).mpr (.inl hx)) rfl
      · exact d x hx hy
    · rw [List.mem_append, List.mem_append, m x]
      constructor
      · rintro (z | z | z)
        · exact .inr (.inl z)
        · exact .inl z
        · exact .inr (.inr z)
      · rintro (z | z | z)
        · exact .inr (.inl z)
        · exact .inl z
        · exact .inr (.inr z)
    · subst z
      exact nn.2.2 x hx x ((m x).mpr (.inr hy)) rfl

structure SR (K : PySem.W.Frag) (cl : Nat → Addr) (F H : Hp) (σ : L2.St) (ρ : Env) (fp : List Addr) : Prop where
  le : Same F H
  env : REnv K cl F H σ ρ fp
  nd : fp.Nodup
structure Stp (F H : Hp) (fp : List Addr) (F' H' : Hp) (fp' : List Addr) : Prop where
  le : Same F F'
  fr : ∀ a o, H a = some o → a ∉ fp → H' a = some o
  mem : ∀ a ∈ fp', a ∈ fp ∨ H a = none
  nw : ∀ a, F' a ≠ none → F a ≠ none ∨ H a = none ∨ a ∈ fp
theorem Stp.refl {fp : List Addr} : Stp F H fp F H fp := ⟨Same.refl _, fun _ _ h _ => h, fun _ h => .inl h, fun _ h => .inl h⟩
theorem Stp.back {fp fp' : List Addr} (a : Stp F H fp F' H' fp') {x : Addr} (h : H' x = none) : H x = none ∨ x ∈ fp := by
  by_cases m : x ∈ fp
  · exact .inr m
  · cases q : H x with
    | none => exact .inl rfl
    | some o =>
      rw [a.fr x o q m] at h
      cases h
theorem Stp.trans {fp fp' fp2 : List Addr} (a : Stp F H fp F' H' fp') (b : Stp F' H' fp' F2 H2 fp2) : Stp F H fp F2 H2 fp2 := by
  refine ⟨a.le.trans b.le, fun x o h m => b.fr x o (a.fr x o h m) fun z => ?_, fun x h => ?_, fun x h => ?_⟩
  · rcases a.mem x z with z | z
    · exact m z
    · rw [z] at h; cases h
  · rcases b.mem x h with z | z
    · exact a.mem x z
    · exact (a.back z).symm
  · rcases b.nw x h with z | z | z
    · exact a.nw x z
    · exact .inr (a.back z)
    · exact .inr (a.mem x z).symm
theorem Stp.weaken {fp fp' fp2 : List Addr} (a : Stp F H fp F' H' fp') (h : ∀ x ∈ fp2, x ∈ fp') : Stp F H fp F' H' fp2 := ⟨a.le, a.fr, fun x m => a.mem x (h x m), a.nw⟩
/-- nothing that stood is changed; what is new may be frozen -/
structure Grow (F H F' H' : Hp) : Prop where
  le : Same F F'
  leH : Same H H'
  fh : Same F' H'
  nw : ∀ a, F' a ≠ none → F a ≠ none ∨ H a = none
theorem Grow.refl (h : Same F H) : Grow F H F H := ⟨Same.refl _, Same.refl _, h, fun _ h => .inl h⟩
theorem Grow.trans (a : Grow F H F' H') (b : Grow F' H' F2 H2) : Grow F H F2 H2 := ⟨a.le.trans b.le, a.leH.trans b.leH, b.fh, fun x h => by
  rcases b.nw x h with z | z
  · exact a.nw x z
  · exact .inr (a.leH.free z)⟩
theorem Grow.stp (g : Grow F H F' H') {fp : List Addr} : Stp F H fp F' H' fp := ⟨g.le, fun a o h _ => g.leH a o h, fun _ h => .inl h, fun a h => (g.nw a h).elim .inl fun z => .inr (.inl z)⟩
theorem Grow.keepF (g : Grow F H F' H') {a : Addr} (h : F a = none) {u : HO} (hu : H a = some u) : F' a = none := by
  cases q : F' a with
  | none => rfl
  | some o =>
    rcases g.nw a (by rw [q]; exact fun z => by cases z) with z | z
    · exact absurd h z
    · rw [hu] at z; cases z
theorem Grow.own (g : Grow F H F' H') {v : V} {o : O} {fp : List Addr} (r : ROwn K cl F H v o fp) : ROwn K cl F' H' v o fp :=
  ROwn.mono g.le o (fun a _ u h => g.leH a u h) (fun a ha h => g.keepF h (ROwn.there o r a ha).2.choose_spec) r
theorem Grow.owns (g : Grow F H F' H') {v : List V} {o : List O} {fp : List Addr} (r : ROwns K cl F H v o fp) : ROwns K cl F' H' v o fp :=
  ROwns.mono g.le o (fun a _ u h => g.leH a u h) (fun a ha h => g.keepF h (ROwns.there o r a ha).2.choose_spec) r
theorem Grow.env (g : Grow F H F' H') {σ : L2.St} {ρ : Env} {fp : List Addr} (r : REnv K cl F H σ ρ fp) : REnv K cl F' H' σ ρ fp :=
  REnv.mono g.le (fun a _ u h => g.leH a u h) (fun a ha h => g.keepF h (REnv.there r a ha).2.choose_spec) r
theorem SR.grow {σ : L2.St} {ρ : Env} {fp : List Addr} (s : SR K cl F H σ ρ fp) (g : Grow F H F' H') : SR K cl F' H' σ ρ fp := ⟨g.fh, g.env s.env, s.nd⟩
/-- a new object, frozen at once -/
theorem Grow.new {p : Addr} {u : HO} (h : Same F H) (hp : H p = none) : Grow F H (upd F p u) (upd H p u) := by
  have hF : F p = none := h.free hp
  refine ⟨fun b x e => ?_, fun b x e => ?_, fun b x e => ?_, fun b hb => ?_⟩
  · rw [upd_ne (ne_of_none e hF)]; exact e
  · rw [upd_ne (ne_of_none e hp)]; exact e
  · by_cases z : b = p
    · subst z; rw [upd_same] at e ⊢; exact e
    · rw [upd_ne z] at e ⊢; exact h b x e
  · by_cases z : b = p
    · subst z; exact .inr hp
    · rw [upd_ne z] at hb; exact .inl hb
/-- a new object that is not frozen -/
theorem Grow.newO {p : Addr} {u : HO} (h : Same F H) (hp : H p = none) : Grow F H F (upd H p u) :=
  ⟨Same.refl _, fun b x e => by rw [upd_ne (ne_of_none e hp)]; exact e, fun b x e => by rw [upd_ne (ne_of_none (h b x e) hp)]; exact h b x e, fun b hb => .inl hb⟩
/-- the footprint fv is frozen -/
def ice (F H : Hp) (fv : List Addr) : Hp := fun a => if a ∈ fv then H a else F a
theorem ice_in {fv : List Addr} {a : Addr} (h : a ∈ fv) : ice F H fv a = H a := if_pos h
theorem ice_out {fv : List Addr} {a : Addr} (h : a ∉ fv) : ice F H fv a = F a := if_neg h
theorem ice_le {fv : List Addr} (h : Same F H) : Same (ice F H fv) H := fun a o e => by
  by_cases m : a ∈ fv
  · rw [ice_in m] at e; exact e
  · rw [ice_out m] at e; exact h a o e
theorem ice_up {fv : List Addr} (h : Same F H) : Same F (ice F H fv) := fun a o e => by
  by_cases m : a ∈ fv
  · rw [ice_in m]; exact h a o e
  · rw [ice_out m]; exact e
end
end Tk

set_option Elab.async false
set_option linter.all false
set_option maxRecDepth 100000
set_option maxHeartbeats 4000000
namespace Tk
open PySem PySem.Spec PyProof.Rows L2

/-! ## readings by data -/
abbrev Rel (β α : Type) := L2.St → Hp → β → α → Prop
def exH (K : PySem.W.Frag) (cl : Nat → Addr) (E : XK) (F H : Hp) (fp : List Addr) (σ : L2.St) (c : Nat) (fs : List (Str × D)) (ρ : Env) : Prop :=
  ∀ F' H' fp' vs dd, Stp F H fp F' H' fp' → SR K cl F' H' σ ρ fp' → Fds K cl F' vs fs → H' dd = some (.xd vs) → E (.ref (cl c)) (some dd) H'
def wp (K : PySem.W.Frag) (cl : Nat → Addr) (E : XK) {β α : Type} (rel : Rel β α) (r : Res α) (F H : Hp) (fp : List Addr) (σ : L2.St) (Q : β → Hp → Prop) : Prop :=
  match r with
  | .ok a ρ => ∀ b F' H' fp', Stp F H fp F' H' fp' → SR K cl F' H' σ ρ fp' → rel σ F' b a → Q b H'
  | .ex c fs ρ => exH K cl E F H fp σ c fs ρ
  | .no => False
def tM (K : PySem.W.Frag) (cl : Nat → Addr) (E : XK) {β α : Type} (rel : Rel β α) (f : Env → Res α) : L2.St → Hp → (β → Hp → Prop) → Prop :=
  fun σ H Q => ∃ F fp ρ, SR K cl F H σ ρ fp ∧ wp K cl E rel (f ρ) F H fp σ Q
/-- an owned value -/
def wpO (K : PySem.W.Frag) (cl : Nat → Addr) (E : XK) (r : Res O) (F H : Hp) (fp : List Addr) (σ : L2.St) (Q : VK) : Prop :=
  match r with
  | .ok o ρ => ∀ v F' H' fv fp', Stp F H fp F' H' (fv ++ fp') → Same F' H' → REnv K cl F' H' σ ρ fp' → ROwn K cl F' H' v o fv → (fv ++ fp').Nodup → Q v H'
  | .ex c fs ρ => exH K cl E F H fp σ c fs ρ
  | .no => False
def tO (K : PySem.W.Frag) (cl : Nat → Addr) (E : XK) (f : Env → Res O) : TE := fun σ H Q => ∃ F fp ρ, SR K cl F H σ ρ fp ∧ wpO K cl E (f ρ) F H fp σ Q
abbrev rV (K : PySem.W.Frag) (cl : Nat → Addr) : Rel V D := fun _ F v d => Rep K cl F v d
abbrev rA (K : PySem.W.Frag) (cl : Nat → Addr) : Rel (List V) (List D) := fun _ F v d => Reps K cl F v d
abbrev rB : Rel Bool Bool := fun _ _ a b => a = b
abbrev tV (K : PySem.W.Frag) (cl : Nat → Addr) (E : XK) (f : Env → Res D) : TE := tM K cl E (rV K cl) f
abbrev tT (K : PySem.W.Frag) (cl : Nat → Addr) (E : XK) (f : Env → Res Bool) : TT := tM K cl E rB f
abbrev tA (K : PySem.W.Frag) (cl : Nat → Addr) (E : XK) (f : Env → Res (List D)) : TA := tM K cl E (rA K cl) f

theorem PE.imp {X : Cx} {e : Expr} {t t' : TE} (h : PE X e t) (i : ∀ σ H Q, t' σ H Q → t σ H Q) : PE X e t' := ⟨fun pins s σ H Q I q => h.run pins s σ H Q I (i σ H Q q)⟩
theorem PT.imp {X : Cx} {e : Expr} {t t' : TT} (h : PT X e t) (i : ∀ σ H Q, t' σ H Q → t σ H Q) : PT X e t' := ⟨fun pins s σ H Q I q => h.run pins s σ H Q I (i σ H Q q)⟩
theorem PW.imp {X : Cx} {e : Expr} {t t' : TT} (h : PW X e t) (i : ∀ σ H Q, t' σ H Q → t σ H Q) : PW X e t' := ⟨fun wh pins s σ H Q I q => h.run wh pins s σ H Q I (i σ H Q q)⟩
theorem PA.imp {X : Cx} {e : List Expr} {t t' : TA} (h : PA X e t) (i : ∀ σ H Q, t' σ H Q → t σ H Q) : PA X e t' := ⟨fun pos pins s σ H Q I q => h.run pos pins s σ H Q I (i σ H Q q)⟩
theorem PS.imp {X : Cx} {e : Stmt} {t t' : TS} (h : PS X e t) (i : ∀ D σ H, t' D σ H → t D σ H) : PS X e t' := ⟨fun pins s σ H D I q => h.run pins s σ H D I (i D σ H q)⟩
theorem PSs.imp {X : Cx} {e : List Stmt} {t t' : TS} (h : PSs X e t) (i : ∀ D σ H, t' D σ H → t D σ H) : PSs X e t' := ⟨fun pins s σ H D I q => h.run pins s σ H D I (i D σ H q)⟩

section
variable {K : PySem.W.Frag} {cl : Nat → Addr} {E : XK} {F F1 H H1 : Hp} {fp fp1 : List Addr} {σ : L2.St} {ρ : Env}
theorem exH.trans {c : Nat} {fs : List (Str × D)} (s : Stp F H fp F1 H1 fp1) (h : exH K cl E F H fp σ c fs ρ) : exH K cl E F1 H1 fp1 σ c fs ρ :=
  fun F' H' fp' vs dd st sr r e => h F' H' fp' vs dd (s.trans st) sr r e
theorem wp.trans {β α : Type} {rel : Rel β α} {r : Res α} {Q : β → Hp → Prop} (s : Stp F H fp F1 H1 fp1) (h : wp K cl E rel r F H fp σ Q) : wp K cl E rel r F1 H1 fp1 σ Q := by
  cases r with
  | ok a ρ => exact fun b F' H' fp' st sr q => h b F' H' fp' (s.trans st) sr q
  | ex c fs ρ => exact exH.trans s h
  | no => exact h
theorem wpO.trans {r : Res O} {Q : VK} (s : Stp F H fp F1 H1 fp1) (h : wpO K cl E r F H fp σ Q) : wpO K cl E r F1 H1 fp1 σ Q := by
  cases r with
  | ok a ρ => exact fun v F' H' fv fp' st sm re ro n => h v F' H' fv fp' (s.trans st) sm re ro n
  | ex c fs ρ => exact exH.trans s h
  | no => exact h
/-- one after another; the wish of the whole is any weakest precondition that goes along -/
theorem wp_bind {β α γ : Type} {rel : Rel β α} {f : Env → Res α} {k : α → Env → Res γ} {G : Res γ → Hp → Hp → List Addr → Prop} {Q1 : β → Hp → Prop}
    (tr : ∀ r F1 H1 fp1, Stp F H fp F1 H1 fp1 → G r F H fp → G r F1 H1 fp1) (ge : ∀ c fs r, G (.ex c fs r) F H fp → exH K cl E F H fp σ c fs r) (gn : ¬ G .no F H fp)
    (sr : SR K cl F H σ ρ fp) (h : G ((f ρ).bind k) F H fp)
    (n : ∀ b a ρ1 F1 H1 fp1, Stp F H fp F1 H1 fp1 → SR K cl F1 H1 σ ρ1 fp1 → rel σ F1 b a → G (k a ρ1) F1 H1 fp1 → Q1 b H1) : tM K cl E rel f σ H Q1 := by
  refine ⟨F, fp, ρ, sr, ?_⟩
  cases e : f ρ with
  | ok a r =>
    rw [e] at h
    exact fun b F' H' fp' st sr' q => n b a r F' H' fp' st sr' q (tr _ _ _ _ st h)
  | ex c fs r =>
    rw [e] at h
    exact ge _ _ _ h
  | no =>
    rw [e] at h
    exact (gn h).elim
theorem wp_bindV {β α β2 γ : Type} {rel : Rel β α} {rel2 : Rel β2 γ} {f : Env → Res α} {k : α → Env → Res γ} {Q : β2 → Hp → Prop} {Q1 : β → Hp → Prop} (sr : SR K cl F H σ ρ fp) (h : wp K cl E rel2 ((f ρ).bind k) F H fp σ Q)
    (n : ∀ b a ρ1 F1 H1 fp1, Stp F H fp F1 H1 fp1 → SR K cl F1 H1 σ ρ1 fp1 → rel σ F1 b a → wp K cl E rel2 (k a ρ1) F1 H1 fp1 σ Q → Q1 b H1) : tM K cl E rel f σ H Q1 :=
  wp_bind (G := fun r F H fp => wp K cl E rel2 r F H fp σ Q) (fun _ _ _ _ s q => q.trans s) (fun _ _ _ q => q) (fun q => q) sr h n
theorem wp_bindO {β α : Type} {rel : Rel β α} {f : Env → Res α} {k : α → Env → Res O} {Q : VK} {Q1 : β → Hp → Prop} (sr : SR K cl F H σ ρ fp) (h : wpO K cl E ((f ρ).bind k) F H fp σ Q)
    (n : ∀ b a ρ1 F1 H1 fp1, Stp F H fp F1 H1 fp1 → SR K cl F1 H1 σ ρ1 fp1 → rel σ F1 b a → wpO K cl E (k a ρ1) F1 H1 fp1 σ Q → Q1 b H1) : tM K cl E rel f σ H Q1 :=
  wp_bind (G := fun r F H fp => wpO K cl E r F H fp σ Q) (fun _ _ _ _ s q => q.trans s) (fun _ _ _ q => q) (fun q => q) sr h n
theorem tM.mono {β α : Type} {rel : Rel β α} {f : Env → Res α} {Q Q' : β → Hp → Prop} (h : tM K cl E rel f σ H Q) (q : ∀ b H', Q b H' → Q' b H') : tM K cl E rel f σ H Q' := by
  obtain ⟨F, fp, ρ, sr, h⟩ := h
  refine ⟨F, fp, ρ, sr, ?_⟩
  cases e : f ρ with
  | ok a r => rw [e] at h; exact fun b F' H' fp' st sr r => q _ _ (h b F' H' fp' st sr r)
  | ex c fs r => rw [e] at h; exact h
  | no => rw [e] at h; exact h

/-! ## owned and frozen -/
def eV (f : Env → Res O) : Env → Res D := fun ρ => (f ρ).map frz
def eO (f : Env → Res D) : Env → Res O := fun ρ => (f ρ).map O.sh
/-- a value with its footprint is frozen -/
theorem ice_SR {v : V} {o : O} {fv fp' : List Addr} (sm : Same F H) (re : REnv K cl F H σ ρ fp') (ro : ROwn K cl F H v o fv) (n : (fv ++ fp').Nodup) :
    SR K cl (ice F H fv) H σ ρ fp' ∧ Rep K cl (ice F H fv) v (frz o) := by
  have nn := List.nodup_append.mp n
  refine ⟨⟨ice_le sm, REnv.mono (ice_up sm) (fun _ _ _ h => h) (fun a ha h => ?_) re, nn.2.1⟩, ROwn.frz (ice_up sm) o (fun a ha => ice_in ha) ro⟩
  rw [ice_out fun z => nn.2.2 a z a ha rfl]
  exact h
theorem Stp.ice {F' H' : Hp} {fv fp' : List Addr} (s : Stp F H fp F' H' (fv ++ fp')) (sm : Same F' H') : Stp F H fp (ice F' H' fv) H' fp' := by
  refine ⟨s.le.trans (ice_up sm), s.fr, fun a h => s.mem a (List.mem_append_right _ h), fun a h => ?_⟩
  by_cases m : a ∈ fv
  · rcases s.mem a (List.mem_append_left _ m) with z | z
    · exact .inr (.inr z)
    · exact .inr (.inl z)
  · rw [ice_out m] at h
    exact s.nw a h
theorem tO_of_tV {f : Env → Res O} {Q : VK} (h : tV K cl E (eV f) σ H Q) : tO K cl E f σ H Q := by
  obtain ⟨F, fp, ρ, sr, h⟩ := h
  refine ⟨F, fp, ρ, sr, ?_⟩
  unfold eV at h
  cases e : f ρ with
  | ok a r =>
    rw [e] at h
    intro v F' H' fv fp' st sm re ro n
    obtain ⟨s1, s2⟩ := ice_SR sm re ro n
    exact h v _ H' fp' (st.ice sm) s1 s2
  | ex c fs r => rw [e] at h; exact h
  | no => rw [e] at h; exact h
theorem tV_of_tO {f : Env → Res D} {Q : VK} (h : tO K cl E (eO f) σ H Q) : tV K cl E f σ H Q := by
  obtain ⟨F, fp, ρ, sr, h⟩ := h
  refine ⟨F, fp, ρ, sr, ?_⟩
  unfold eO at h
  cases e : f ρ with
  | ok a r =>
    rw [e] at h
    intro v F' H' fp' st s q
    exact h v F' H' [] fp' st s.le s.env (.sh q) s.nd
  | ex c fs r => rw [e] at h; exact h
  | no => rw [e] at h; exact h
/-- what a primitive leaves: new things alone -/
def Fin (K : PySem.W.Frag) (cl : Nat → Addr) (F H : Hp) (o : O) (Q : VK) : Prop := ∀ v F' H' fv, Grow F H F' H' → ROwn K cl F' H' v o fv → (∀ a ∈ fv, H a = none) → fv.Nodup → Q v H'
def opt (x : Option O) (ρ : Env) : Res O := match x with
  | some o => .ok o ρ
  | none => .no
@[simp] theorem opt_some {o : O} : opt (some o) ρ = .ok o ρ := rfl
@[simp] theorem opt_none : opt none ρ = .no := rfl
def optB (x : Option Bool) (ρ : Env) : Res Bool := match x with
  | some o => .ok o ρ
  | none => .no
@[simp] theorem optB_some {o : Bool} : optB (some o) ρ = .ok o ρ := rfl
@[simp] theorem optB_none : optB none ρ = .no := rfl
theorem fin_opt {x : Option O} {Q : VK} (sr : SR K cl F H σ ρ fp) (h : wpO K cl E (opt x ρ) F H fp σ Q) : ∃ o, x = some o ∧ Fin K cl F H o Q := by
  cases x with
  | none => exact h.elim
  | some o =>
    refine ⟨o, rfl, fun v F' H' fv g ro nw nd => ?_⟩
    have d : ∀ a ∈ fv, ∀ b ∈ fp, a ≠ b := fun a ha b hb e => by
      subst e
      obtain ⟨u, hu⟩ := (sr.env.there a hb).2
      rw [nw a ha] at hu
      cases hu
    exact h v F' H' fv fp ⟨g.le, fun a o h _ => g.leH a o h, fun a ha => (List.mem_append.mp ha).elim (fun z => .inr (nw a z)) .inl, fun a ha => (g.nw a ha).elim .inl fun z => .inr (.inl z)⟩ g.fh (g.env sr.env) ro
      (List.nodup_append.mpr ⟨nd, sr.nd, fun a ha b hb e => d a ha b hb e⟩)
theorem fin_ok {β α : Type} {rel : Rel β α} {a : α} {b : β} {Q : β → Hp → Prop} (sr : SR K cl F H σ ρ fp) (h : wp K cl E rel (.ok a ρ) F H fp σ Q) (r : rel σ F b a) : Q b H := h b F H fp Stp.refl sr r
theorem fin_optB {x : Option Bool} {Q : Bool → Hp → Prop} (sr : SR K cl F H σ ρ fp) (h : wp K cl E rB (optB x ρ) F H fp σ Q) : ∃ k, x = some k ∧ Q k H := by
  cases x with
  | none => exact h.elim
  | some k => exact ⟨k, rfl, h k F H fp Stp.refl sr rfl⟩
theorem Fin.sh {d : D} {Q : VK} (sm : Same F H) (h : Fin K cl F H (.sh d) Q) {v : V} (r : Rep K cl F v d) : Q v H := h v F H [] (Grow.refl sm) (.sh r) (fun _ h => nomatch h) .nil
theorem Fin.tup {ds : List D} {Q : VK} (sm : Same F H) (h : Fin K cl F H (.sh (.tup ds)) Q) {vs : List V} (r : Reps K cl F vs ds) (p : Addr) (hp : H p = none) : Q (.ref p) (upd H p (.tup vs)) := by
  have g := Grow.new (u := .tup vs) sm hp
  exact h _ _ _ [] g (.sh (.tup (.inl (.inl upd_same)) (r.mono g.le ds))) (fun _ h => nomatch h) .nil
theorem Fin.lst {os : List O} {Q : VK} (sm : Same F H) (h : Fin K cl F H (.lst os) Q) {vs : List V} {fv : List Addr} (r : ROwns K cl F H vs os fv) (nw : fv = []) (p : Addr) (hp : H p = none) : Q (.ref p) (upd H p (.lst vs)) := by
  subst nw
  have g := Grow.newO (u := .lst vs) sm hp
  exact h _ _ _ [p] g (.lst upd_same (sm.free hp) (g.owns r)) (fun a ha => by rw [List.mem_singleton.mp ha]; exact hp) (by simp)
theorem Fin.lstD {ds : List D} {Q : VK} (sm : Same F H) (h : Fin K cl F H (.lst (ds.map O.sh)) Q) {vs : List V} (r : Reps K cl F vs ds) (p : Addr) (hp : H p = none) : Q (.ref p) (upd H p (.lst vs)) :=
  h.lst sm (ROwns.of_reps r) rfl p hp
end
section
variable {X : Cx} {cl : Nat → Addr} {E : XK} {a b c e : Expr} {pos : Pos}
theorem vv {f : Env → Res O} (h : PE X e (tO X.K cl E f)) : PE X e (tV X.K cl E (eV f)) := PE.imp h fun _ _ _ q => tO_of_tV q
theorem oo {f : Env → Res D} (h : PE X e (tV X.K cl E f)) : PE X e (tO X.K cl E (eO f)) := PE.imp h fun _ _ _ q => tV_of_tO q
/-! ## names and constants -/
def eVar (i : Nat) : Env → Res D := fun ρ => match ρ[i]? with
  | some (some (.sh d)) => .ok d ρ
  | _ => .no
def eFrz (i : Nat) : Env → Res D := fun ρ => match ρ[i]? with
  | some (some o) => .ok (frz o) (ρ.set i (some (.sh (frz o))))
  | _ => .no
def eC (d : D) : Env → Res D := fun ρ => .ok d ρ
theorem m_var (i : Nat) (h : PE X e (tVar i)) : PE X e (tV X.K cl E (eVar i)) := by
  refine PE.imp h fun σ H Q ⟨F, fp, ρ, sr, q⟩ => ?_
  unfold eVar at q
  split at q
  · rename_i d e
    obtain ⟨v, fq, hv, r, _⟩ := sr.env.get e
    cases r with
    | sh r => exact ⟨v, hv, q v F H fp Stp.refl sr r⟩
  · exact q.elim
theorem setSelf {α : Type} : ∀ {xs : List α} {i : Nat} {x : α}, xs[i]? = some x → xs.set i x = xs
  | [], i, x, h => by simp at h
  | y :: ys, 0, x, h => by simp at h; subst h; rfl
  | y :: ys, i + 1, x, h => by simp at h; show y :: ys.set i x = y :: ys; rw [setSelf h]
theorem m_frz (i : Nat) (h : PE X e (tVar i)) : PE X e (tV X.K cl E (eFrz i)) := by
  refine PE.imp h fun σ H Q ⟨F, fp, ρ, sr, q⟩ => ?_
  unfold eFrz at q
  split at q
  · rename_i o e
    obtain ⟨v, fo, fr, hv, ro, n1, d, m, n2, re⟩ := sr.env.hole sr.nd e
    refine ⟨v, hv, ?_⟩
    have nd : (fo ++ fr).Nodup := List.nodup_append.mpr ⟨n1, n2, fun a ha b hb z => d a ha (z ▸ hb)⟩
    obtain ⟨s1, s2⟩ := ice_SR sr.le re ro nd
    have hlt : i < σ.length := (List.getElem?_eq_some_iff.mp hv).1
    obtain ⟨fp', r', n', m'⟩ := REnv.set i s1.env (.sh s2) s1.nd .nil (fun _ h => nomatch h) hlt
    rw [List.set_set, setSelf hv] at r'
    refine q v (ice F H fo) H fp' ?_ ⟨s1.le, r', n'⟩ s2
    have st : Stp F H fp F H (fo ++ fr) := ⟨Same.refl _, fun _ _ h _ => h, fun a ha => .inl ((m a).mpr (List.mem_append.mp ha)), fun _ h => .inl h⟩
    exact (st.ice sr.le).weaken fun x hx => (m' x hx).elim id fun h => nomatch h
  · exact q.elim
theorem m_C {v : V} {d : D} (h : PE X e (tC v)) (r : ∀ F, Rep X.K cl F v d) : PE X e (tV X.K cl E (eC d)) := PE.imp h fun σ H Q ⟨F, fp, ρ, sr, q⟩ => q v F H fp Stp.refl sr (r F)
theorem m_int {i : Int} {j : Nat} : PE X (.Constant (.int i) j pos) (tV X.K cl E (eC (.int i))) := m_C pe_int fun _ => .int i
theorem m_bl {i : Bool} {j : Nat} : PE X (.Constant (.bool i) j pos) (tV X.K cl E (eC (.bl i))) := m_C pe_bl fun _ => .bl i
theorem m_non {j : Nat} : PE X (.Constant .none j pos) (tV X.K cl E (eC .non)) := m_C pe_non fun _ => .non
theorem m_str {x : Str} {j : Nat} : PE X (.Constant (.str x) j pos) (tV X.K cl E (eC (.str x))) := m_C pe_str fun _ => .str x
/-- what is never come to -/
theorem m_no : PE X e (tV X.K cl E fun _ => .no) := ⟨fun _ _ _ _ _ _ ⟨_, _, _, _, q⟩ => q.elim⟩
theorem mT_no : PT X e (tT X.K cl E fun _ => .no) := ⟨fun _ _ _ _ _ _ ⟨_, _, _, _, q⟩ => q.elim⟩

/-! ## primitives -/
def Pr1 (K : PySem.W.Frag) (cl : Nat → Addr) (r : V → Hp → VK → Prop) (o : D → Option O) : Prop :=
  ∀ (F H : Hp) (x : V) (dx : D) (ob : O) (Q : VK), Same F H → Rep K cl F x dx → o dx = some ob → Fin K cl F H ob Q → r x H Q
def Pr2 (K : PySem.W.Frag) (cl : Nat → Addr) (r : R2) (o : D → D → Option O) : Prop :=
  ∀ (F H : Hp) (x y : V) (dx dy : D) (ob : O) (Q : VK), Same F H → Rep K cl F x dx → Rep K cl F y dy → o dx dy = some ob → Fin K cl F H ob Q → r x y H Q
def PrN (K : PySem.W.Frag) (cl : Nat → Addr) (r : List V → Hp → VK → Prop) (o : List D → Option O) : Prop :=
  ∀ (F H : Hp) (xs : List V) (ds : List D) (ob : O) (Q : VK), Same F H → Reps K cl F xs ds → o ds = some ob → Fin K cl F H ob Q → r xs H Q
def PrB (K : PySem.W.Frag) (cl : Nat → Addr) (r : R2) (o : D → D → Option Bool) : Prop :=
  ∀ (F H : Hp) (x y : V) (dx dy : D) (k : Bool) (Q : VK), Same F H → Rep K cl F x dx → Rep K cl F y dy → o dx dy = some k → Q (.bl k) H → r x y H Q
def e1 (o : D → Option O) (f : Env → Res D) : Env → Res O := fun ρ => (f ρ).bind fun x r => opt (o x) r
def e2 (o : D → D → Option O) (f g : Env → Res D) : Env → Res O := fun ρ => (f ρ).bind fun x r => (g r).bind fun y r' => opt (o x y) r'
def eN (o : List D → Option O) (f : Env → Res (List D)) : Env → Res O := fun ρ => (f ρ).bind fun x r => opt (o x) r
def tst (x : Option Bool) : Option O := x.map fun k => .sh (.bl k)
def t2 (o : D → D → Option Bool) (f g : Env → Res D) : Env → Res Bool := fun ρ => (f ρ).bind fun x r => (g r).bind fun y r' => optB (o x y) r'
theorem PrB.pr2 {K : PySem.W.Frag} {r : R2} {o : D → D → Option Bool} (h : PrB K cl r o) : Pr2 K cl r fun x y => tst (o x y) := by
  intro F H x y dx dy ob Q sm rx ry e q
  have e' : tst (o dx dy) = some ob := e
  cases k : o dx dy with
  | none => rw [k] at e'; cases e'
  | some b =>
    rw [k] at e'
    cases e'
    exact h F H x y dx dy b Q sm rx ry k (q.sh sm (.bl b))
theorem Pr2.or {K : PySem.W.Frag} {r r' : R2} {o : D → D → Option O} (h : ∀ (F H : Hp) (x y : V) (dx dy : D) (ob : O) (Q : VK), Same F H → Rep K cl F x dx → Rep K cl F y dy → o dx dy = some ob → Fin K cl F H ob Q → r x y H Q ∨ r' x y H Q) : Pr2 K cl (fun x y H Q => r x y H Q ∨ r' x y H Q) o := h
theorem m_op {op : Operator} {r : R2} {o : D → D → Option O} {f g : Env → Res D} (ho : OpR X (binaryOp op) r) (hp : Pr2 X.K cl r o) (ha : PE X a (tV X.K cl E f)) (hb : PE X b (tV X.K cl E g)) :
    PE X (.BinOp a op b pos) (tO X.K cl E (e2 o f g)) := by
  refine PE.imp (pe_op ho ha hb) fun σ H Q ⟨F, fp, ρ, sr, q⟩ => ?_
  refine wp_bindO sr q fun x dx ρ1 F1 H1 fp1 st1 sr1 rx q1 => ?_
  refine wp_bindO sr1 q1 fun y dy ρ2 F2 H2 fp2 st2 sr2 ry q2 => ?_
  obtain ⟨o', e, fin⟩ := fin_opt sr2 q2
  exact hp F2 H2 x y dx dy o' Q sr2.le (rx.mono st2.le dx) ry e fin
theorem m_un {op : UnaryOp} {r : V → Hp → VK → Prop} {o : D → Option O} {f : Env → Res D} (ho : UnR X (unaryOp op) r) (hp : Pr1 X.K cl r o) (ha : PE X a (tV X.K cl E f)) :
    PE X (.UnaryOp op a pos) (tO X.K cl E (e1 o f)) := by
  refine PE.imp (pe_un ho ha) fun σ H Q ⟨F, fp, ρ, sr, q⟩ => ?_
  refine wp_bindO sr q fun x dx ρ1 F1 H1 fp1 st1 sr1 rx q1 => ?_
  obtain ⟨o', e, fin⟩ := fin_opt sr1 q1
  exact hp F1 H1 x dx o' Q sr1.le rx e fin
theorem m_cmp {op : CmpOp} {r : R2} {o : D → D → Option Bool} {f g : Env → Res D} (ho : OpR X (compareOp op) r) (hp : PrB X.K cl r o) (ha : PE X a (tV X.K cl E f)) (hb : PE X b (tV X.K cl E g)) (hm : behindInMarks op b = false := by with_unfolding_all rfl) :
    PE X (.Compare a [op] [b] pos) (tO X.K cl E (e2 (fun x y => tst (o x y)) f g)) := by
  refine PE.imp (pe_cmpR ho ha hb hm) fun σ H Q ⟨F, fp, ρ, sr, q⟩ => ?_
  refine wp_bindO sr q fun x dx ρ1 F1 H1 fp1 st1 sr1 rx q1 => ?_
  refine wp_bindO sr1 q1 fun y dy ρ2 F2 H2 fp2 st2 sr2 ry q2 => ?_
  obtain ⟨o', e, fin⟩ := fin_opt sr2 q2
  exact hp.pr2 F2 H2 x y dx dy o' Q sr2.le (rx.mono st2.le dx) ry e fin
theorem mT_cmp {op : CmpOp} {r : R2} {o : D → D → Option Bool} {f g : Env → Res D} (ho : OpR X (compareOp op) r) (hp : PrB X.K cl r o) (ha : PE X a (tV X.K cl E f)) (hb : PE X b (tV X.K cl E g)) (hm : behindInMarks op b = false := by with_unfolding_all rfl) :
    PT X (.Compare a [op] [b] pos) (tT X.K cl E (t2 o f g)) := by
  refine PT.imp (pt_cmpR ho ha hb hm) fun σ H Q ⟨F, fp, ρ, sr, q⟩ => ?_
  refine wp_bindV sr q fun x dx ρ1 F1 H1 fp1 st1 sr1 rx q1 => ?_
  refine wp_bindV sr1 q1 fun y dy ρ2 F2 H2 fp2 st2 sr2 ry q2 => ?_
  obtain ⟨k, e, fin⟩ := fin_optB sr2 q2
  exact hp F2 H2 x y dx dy k _ sr2.le (rx.mono st2.le dx) ry e ⟨k, rfl, fin⟩
/-- a op b op' c -/
def tCh (o o' : D → D → Option Bool) (f g h : Env → Res D) : Env → Res Bool := fun ρ => (f ρ).bind fun x r => (g r).bind fun y r1 => (optB (o x y) r1).bind fun k r2 => if k = true then (h r2).bind fun z r3 => optB (o' y z) r3 else .ok false r2
theorem wp_if {K : PySem.W.Frag} {F H : Hp} {fp : List Addr} {σ : L2.St} {k : Bool} {α β : Type} {rel : Rel β α} {r r' : Res α} {Q : β → Hp → Prop} (h : wp K cl E rel (if k = true then r else r') F H fp σ Q) :
    (k = true → wp K cl E rel r F H fp σ Q) ∧ (k = false → wp K cl E rel r' F H fp σ Q) := by
  cases k with
  | true => exact ⟨fun _ => h, fun z => nomatch z⟩
  | false => exact ⟨(fun z => nomatch z), fun _ => h⟩
theorem mT_chain {op op' : CmpOp} {r r' : R2} {o o' : D → D → Option Bool} {f g h : Env → Res D} (ho : OpR X (compareOp op) r) (hp : PrB X.K cl r o) (ho' : OpR X (compareOp op') r') (hp' : PrB X.K cl r' o')
    (ha : PE X a (tV X.K cl E f)) (hb : PE X b (tV X.K cl E g)) (hc : PE X c (tV X.K cl E h)) (hm : lastMarks [op, op'] [b, c] = false := by with_unfolding_all rfl) :
    PT X (.Compare a [op, op'] [b, c] pos) (tT X.K cl E (tCh o o' f g h)) := by
  refine PT.imp (pt_chain ho ho' ha hb hc hm) fun σ H Q ⟨F, fp, ρ, sr, q⟩ => ?_
  refine wp_bindV sr q fun x dx ρ1 F1 H1 fp1 st1 sr1 rx q1 => ?_
  refine wp_bindV sr1 q1 fun y dy ρ2 F2 H2 fp2 st2 sr2 ry q2 => ?_
  have rx2 := rx.mono st2.le dx
  cases k : o dx dy with
  | none => rw [k] at q2; exact q2.elim
  | some b =>
    rw [k] at q2
    refine hp F2 H2 x y dx dy b _ sr2.le rx2 ry k ⟨b, rfl, ?_⟩
    obtain ⟨qt, qf⟩ := wp_if q2
    cases b with
    | false => exact iteF ⟨false, rfl, qf rfl false F2 H2 fp2 Stp.refl sr2 rfl⟩
    | true =>
      refine iteT (wp_bindV sr2 (qt rfl) fun z dz ρ3 F3 H3 fp3 st3 sr3 rz q3 => ?_)
      obtain ⟨k', e, fin⟩ := fin_optB sr3 q3
      exact hp' F3 H3 y z dy dz k' _ sr3.le (ry.mono st3.le dy) rz e ⟨k', rfl, fin⟩
def eCh (o o' : D → D → Option Bool) (f g h : Env → Res D) : Env → Res O := fun ρ => (tCh o o' f g h ρ).map fun k => .sh (.bl k)
theorem wpO_if {K : PySem.W.Frag} {F H : Hp} {fp : List Addr} {σ : L2.St} {k : Bool} {r r' : Res O} {Q : VK} (h : wpO K cl E (if k = true then r else r') F H fp σ Q) :
    (k = true → wpO K cl E r F H fp σ Q) ∧ (k = false → wpO K cl E r' F H fp σ Q) := by
  cases k with
  | true => exact ⟨fun _ => h, fun z => nomatch z⟩
  | false => exact ⟨(fun z => nomatch z), fun _ => h⟩
theorem map_bind {α β γ : Type} (x : Res α) (k : α → Env → Res β) (g : β → γ) : (x.bind k).map g = x.bind fun a r => (k a r).map g := by
  cases x <;> rfl
/-! ## truth, and, or, not -/
def truD : D → Option Bool
  | .non => some false
  | .bl k => some k
  | .int i => some (i != 0)
  | .lst xs => some (!xs.isEmpty)
  | .tup xs => some (!xs.isEmpty)
  | _ => none
theorem Reps.isEmpty {K : PySem.W.Frag} {F : Hp} {vs : List V} {ds : List D} (h : Reps K cl F vs ds) : vs.isEmpty = ds.isEmpty := by
  cases h <;> rfl
theorem truD_ok {K : PySem.W.Frag} {F H : Hp} {v : V} {d : D} {k : Bool} (sm : Same F H) (r : Rep K cl F v d) (h : truD d = some k) : TruV K v H k := by
  cases d with
  | non => cases r; cases h; rfl
  | bl b => cases r; cases h; rfl
  | int i => cases r; cases h; rfl
  | str x => cases h
  | lst xs =>
    cases r with
    | lst a b => cases h; exact .inl ⟨_, .inl (.inl (sm _ _ a)), by rw [Reps.isEmpty b]⟩
  | tup xs =>
    cases r with
    | tup a b => cases h; exact .inr (.inl ⟨_, seqT sm a, by rw [Reps.isEmpty b]⟩)
  | ins c fs => cases h
  | scr xs => cases h
def tTru (f : Env → Res D) : Env → Res Bool := fun ρ => (f ρ).bind fun x r => optB (truD x) r
theorem mT_truth {f : Env → Res D} (ha : PE X a (tV X.K cl E f)) (he : ∀ whole, isTrue a X.env whole = (do let v ← whole; standAt a.pos; holding [v] (truthy v)) := by intro _; rfl) : PT X a (tT X.K cl E (tTru f)) := by
  refine PT.imp (pt_truth ha he) fun σ H Q ⟨F, fp, ρ, sr, q⟩ => ?_
  refine wp_bindV sr q fun x dx ρ1 F1 H1 fp1 st1 sr1 rx q1 => ?_
  obtain ⟨k, e, fin⟩ := fin_optB sr1 q1
  exact ⟨k, truD_ok sr1.le rx e, fin⟩
def tAn (f g : Env → Res Bool) : Env → Res Bool := fun ρ => (f ρ).bind fun k r => if k = true then g r else .ok false r
def tOr' (f g : Env → Res Bool) : Env → Res Bool := fun ρ => (f ρ).bind fun k r => if k = true then .ok true r else g r
def tNt (f : Env → Res Bool) : Env → Res Bool := fun ρ => (f ρ).map (!·)
variable {rest : List Expr}
theorem mW_and1 {f : Env → Res Bool} (ha : PT X a (tT X.K cl E f)) : PW X (.BoolOp .And [a] pos) (tT X.K cl E f) := pw_and1 ha
theorem mW_or1 {f : Env → Res Bool} (ha : PT X a (tT X.K cl E f)) : PW X (.BoolOp .Or [a] pos) (tT X.K cl E f) := pw_or1 ha
theorem mW_and {f g : Env → Res Bool} (ha : PT X a (tT X.K cl E f)) (hb : PW X (.BoolOp .And (b :: rest) pos) (tT X.K cl E g)) : PW X (.BoolOp .And (a :: b :: rest) pos) (tT X.K cl E (tAn f g)) := by
  refine PW.imp (pw_and ha hb) fun σ H Q ⟨F, fp, ρ, sr, q⟩ => ?_
  refine wp_bindV sr q fun k k' ρ1 F1 H1 fp1 st1 sr1 rk q1 => ?_
  subst rk
  obtain ⟨qt, qf⟩ := wp_if q1
  cases k with
  | true => exact iteT ⟨F1, fp1, ρ1, sr1, qt rfl⟩
  | false => exact iteF (qf rfl false F1 H1 fp1 Stp.refl sr1 rfl)
theorem mW_or {f g : Env → Res Bool} (ha : PT X a (tT X.K cl E f)) (hb : PW X (.BoolOp .Or (b :: rest) pos) (tT X.K cl E g)) : PW X (.BoolOp .Or (a :: b :: rest) pos) (tT X.K cl E (tOr' f g)) := by
  refine PW.imp (pw_or ha hb) fun σ H Q ⟨F, fp, ρ, sr, q⟩ => ?_
  refine wp_bindV sr q fun k k' ρ1 F1 H1 fp1 st1 sr1 rk q1 => ?_
  subst rk
  obtain ⟨qt, qf⟩ := wp_if q1
  cases k with
  | true => exact iteT (qt rfl true F1 H1 fp1 Stp.refl sr1 rfl)
  | false => exact iteF ⟨F1, fp1, ρ1, sr1, qf rfl⟩
theorem mT_not {f : Env → Res Bool} (ha : PT X a (tT X.K cl E f)) : PT X (.UnaryOp .Not a pos) (tT X.K cl E (tNt f)) := by
  refine PT.imp (pt_not ha) fun σ H Q ⟨F, fp, ρ, sr, q⟩ => ?_
  refine ⟨F, fp, ρ, sr, ?_⟩
  unfold tNt at q
  cases e : f ρ with
  | ok k r =>
    rw [e] at q
    intro b F' H' fp' st s rb
    subst rb
    exact q (!b) F' H' fp' st s rfl
  | ex c fs r => rw [e] at q; exact q
  | no => rw [e] at q; exact q
/-- as values: the items but the last are bools -/
def bl? : D → Option Bool
  | .bl k => some k
  | _ => none
def eAn (f g : Env → Res D) : Env → Res D := fun ρ => (f ρ).bind fun x r => (optB (bl? x) r).bind fun k r => if k = true then g r else .ok (.bl false) r
def eOr (f g : Env → Res D) : Env → Res D := fun ρ => (f ρ).bind fun x r => (optB (bl? x) r).bind fun k r => if k = true then .ok (.bl true) r else g r
def eNt (f : Env → Res D) : Env → Res D := fun ρ => (f ρ).bind fun x r => (optB (bl? x) r).bind fun k r => .ok (.bl (!k)) r
theorem m_one {op : BoolOp} {f : Env → Res D} (h : PE X a (tV X.K cl E f)) : PE X (.BoolOp op [a] pos) (tV X.K cl E f) := pe_one h
theorem m_and {f g : Env → Res D} (ha : PE X a (tV X.K cl E f)) (hb : PE X (.BoolOp .And (b :: rest) pos) (tV X.K cl E g)) : PE X (.BoolOp .And (a :: b :: rest) pos) (tV X.K cl E (eAn f g)) := by
  refine PE.imp (pe_and ha hb) fun σ H Q ⟨F, fp, ρ, sr, q⟩ => ?_
  refine wp_bindV sr q fun x dx ρ1 F1 H1 fp1 st1 sr1 rx q1 => ?_
  cases dx with
  | bl k =>
    cases rx
    obtain ⟨qt, qf⟩ := wp_if q1
    refine ⟨k, rfl, ?_⟩
    cases k with
    | true => exact iteT ⟨F1, fp1, ρ1, sr1, qt rfl⟩
    | false => exact iteF (qf rfl _ F1 H1 fp1 Stp.refl sr1 (.bl false))
  | _ => exact q1.elim
theorem m_or {f g : Env → Res D} (ha : PE X a (tV X.K cl E f)) (hb : PE X (.BoolOp .Or (b :: rest) pos) (tV X.K cl E g)) : PE X (.BoolOp .Or (a :: b :: rest) pos) (tV X.K cl E (eOr f g)) := by
  refine PE.imp (pe_or ha hb) fun σ H Q ⟨F, fp, ρ, sr, q⟩ => ?_
  refine wp_bindV sr q fun x dx ρ1 F1 H1 fp1 st1 sr1 rx q1 => ?_
  cases dx with
  | bl k =>
    cases rx
    obtain ⟨qt, qf⟩ := wp_if q1
    refine ⟨k, rfl, ?_⟩
    cases k with
    | true => exact iteT (qt rfl _ F1 H1 fp1 Stp.refl sr1 (.bl true))
    | false => exact iteF ⟨F1, fp1, ρ1, sr1, qf rfl⟩
  | _ => exact q1.elim
theorem m_not {f : Env → Res D} (ha : PE X a (tV X.K cl E f)) : PE X (.UnaryOp .Not a pos) (tV X.K cl E (eNt f)) := by
  refine PE.imp (pe_not ha) fun σ H Q ⟨F, fp, ρ, sr, q⟩ => ?_
  refine wp_bindV sr q fun x dx ρ1 F1 H1 fp1 st1 sr1 rx q1 => ?_
  cases dx with
  | bl k =>
    cases rx
    exact ⟨k, rfl, q1 _ F1 H1 fp1 Stp.refl sr1 (.bl _)⟩
  | _ => exact q1.elim
/-- a if t else b -/
def eIf (t : Env → Res Bool) (f g : Env → Res D) : Env → Res D := fun ρ => (t ρ).bind fun k r => if k = true then f r else g r
theorem m_if {t : Env → Res Bool} {f g : Env → Res D} (hc : PT X c (tT X.K cl E t)) (ha : PE X a (tV X.K cl E f)) (hb : PE X b (tV X.K cl E g)) : PE X (.IfExp c a b pos) (tV X.K cl E (eIf t f g)) := by
  refine PE.imp (pe_ifExp hc ha hb) fun σ H Q ⟨F, fp, ρ, sr, q⟩ => ?_
  refine wp_bindV sr q fun k k' ρ1 F1 H1 fp1 st1 sr1 rk q1 => ?_
  subst rk
  obtain ⟨qt, qf⟩ := wp_if q1
  cases k with
  | true => exact iteT ⟨F1, fp1, ρ1, sr1, qt rfl⟩
  | false => exact iteF ⟨F1, fp1, ρ1, sr1, qf rfl⟩
/-! ## arguments, displays -/
variable {es : List Expr}
def aN : Env → Res (List D) := fun ρ => .ok [] ρ
def aC (f : Env → Res D) (g : Env → Res (List D)) : Env → Res (List D) := fun ρ => (f ρ).bind fun x r => (g r).bind fun xs r' => .ok (x :: xs) r'
theorem a_nil : PA X [] (tA X.K cl E aN) := PA.imp pa_nil fun σ H Q ⟨F, fp, ρ, sr, q⟩ => q [] F H fp Stp.refl sr .nil
theorem a_cons {f : Env → Res D} {g : Env → Res (List D)} (ha : PE X e (tV X.K cl E f)) (hr : PA X es (tA X.K cl E g)) (hs : starEach (e :: es) X.env = (false, eval e X.env) :: starEach es X.env := by rfl) : PA X (e :: es) (tA X.K cl E (aC f g)) := by
  refine PA.imp (pa_cons ha hr hs) fun σ H Q ⟨F, fp, ρ, sr, q⟩ => ?_
  refine wp_bindV sr q fun x dx ρ1 F1 H1 fp1 st1 sr1 rx q1 => ?_
  refine wp_bindV sr1 q1 fun xs ds ρ2 F2 H2 fp2 st2 sr2 rs q2 => ?_
  exact q2 (x :: xs) F2 H2 fp2 Stp.refl sr2 (.cons (rx.mono st2.le dx) rs)
def tupD (ds : List D) : Option O := if ds.length ≤ sizeLine then some (.sh (.tup ds)) else none
def lstD (ds : List D) : Option O := if ds.length ≤ sizeLine then some (.lst (ds.map O.sh)) else none
theorem m_tup {f : Env → Res (List D)} {x1} (h : PA X es (tA X.K cl E f)) : PE X (.Tuple es x1 pos) (tO X.K cl E (eN tupD f)) := by
  refine PE.imp (pe_tup h) fun σ H Q ⟨F, fp, ρ, sr, q⟩ => ?_
  refine wp_bindO sr q fun xs ds ρ1 F1 H1 fp1 st1 sr1 rs q1 => ?_
  obtain ⟨o', e, fin⟩ := fin_opt sr1 q1
  unfold tupD at e
  split at e
  · rename_i hl
    cases e
    exact ⟨by rw [Reps.length rs]; exact hl, fun p hp => fin.tup sr1.le rs p hp⟩
  · cases e
theorem m_lst {f : Env → Res (List D)} (h : PA X es (tA X.K cl E f)) : PE X (.List es pos) (tO X.K cl E (eN lstD f)) := by
  refine PE.imp (pe_lst h) fun σ H Q ⟨F, fp, ρ, sr, q⟩ => ?_
  refine wp_bindO sr q fun xs ds ρ1 F1 H1 fp1 st1 sr1 rs q1 => ?_
  obtain ⟨o', e, fin⟩ := fin_opt sr1 q1
  unfold lstD at e
  split at e
  · rename_i hl
    cases e
    exact ⟨by rw [Reps.length rs]; exact hl, fun p hp => fin.lstD sr1.le rs p hp⟩
  · cases e
/-! ## subscripts, slices, attributes, calls of built-ins -/
theorem m_ix {r : R2} {o : D → D → Option O} {f g : Env → Res D} (hr : IxR X r) (hp : Pr2 X.K cl r o) (ha : PE X a (tV X.K cl E f)) (hb : PE X b (tV X.K cl E g)) (hs : PlainIx b := by intro _ _; rfl) : PE X (.Subscript a b pos) (tO X.K cl E (e2 o f g)) := by
  refine PE.imp (pe_ix hr ha hb hs) fun σ H Q ⟨F, fp, ρ, sr, q⟩ => ?_
  refine wp_bindO sr q fun x dx ρ1 F1 H1 fp1 st1 sr1 rx q1 => ?_
  refine wp_bindO sr1 q1 fun y dy ρ2 F2 H2 fp2 st2 sr2 ry q2 => ?_
  obtain ⟨o', e, fin⟩ := fin_opt sr2 q2
  exact hp F2 H2 x y dx dy o' Q sr2.le (rx.mono st2.le dx) ry e fin
/-- a part of a slice -/
abbrev rP : Rel (Option Int) (Option Int) := fun _ _ a b => a = b
abbrev tP (K : PySem.W.Frag) (cl : Nat → Addr) (E : XK) (f : Env → Res (Option Int)) : TO := tM K cl E rP f
def int? : D → Option Int
  | .int i => some i
  | _ => none
def pN : Env → Res (Option Int) := fun ρ => .ok none ρ
def pS (f : Env → Res D) : Env → Res (Option Int) := fun ρ => (f ρ).bind fun x r => match int? x with
  | some i => .ok (some i) r
  | none => .no
theorem PO.imp {e : Option Expr} {t t' : TO} (h : PO X e t) (i : ∀ σ H Q, t' σ H Q → t σ H Q) : PO X e t' := ⟨fun pins s σ H Q I q => h.run pins s σ H Q I (i σ H Q q)⟩
theorem p_none : PO X none (tP X.K cl E pN) := PO.imp po_none fun σ H Q ⟨F, fp, ρ, sr, q⟩ => q none F H fp Stp.refl sr rfl
theorem p_some {f : Env → Res D} (h : PE X e (tV X.K cl E f)) : PO X (some e) (tP X.K cl E (pS f)) := by
  refine PO.imp (po_some h) fun σ H Q ⟨F, fp, ρ, sr, q⟩ => ?_
  refine wp_bindV sr q fun x dx ρ1 F1 H1 fp1 st1 sr1 rx q1 => ?_
  cases dx with
  | int i => cases rx; exact ⟨i, rfl, q1 (some i) F1 H1 fp1 Stp.refl sr1 rfl⟩
  | _ => exact q1.elim
def eSl (o : D → Option Int → Option Int → Option O) (f : Env → Res D) (g h : Env → Res (Option Int)) : Env → Res O := fun ρ => (f ρ).bind fun x r => (g r).bind fun l r1 => (h r1).bind fun u r2 => opt (o x l u) r2
def Pr3 (K : PySem.W.Frag) (cl : Nat → Addr) (r : V → Option Int → Option Int → Hp → VK → Prop) (o : D → Option Int → Option Int → Option O) : Prop :=
  ∀ (F H : Hp) (x : V) (l u : Option Int) (dx : D) (ob : O) (Q : VK), Same F H → Rep K cl F x dx → o dx l u = some ob → Fin K cl F H ob Q → r x l u H Q
theorem m_sl {r : V → Option Int → Option Int → Hp → VK → Prop} {o : D → Option Int → Option Int → Option O} {f : Env → Res D} {g h : Env → Res (Option Int)} {lo hi : Option Expr} {p2 : Pos} (hr : SlR X r) (hp : Pr3 X.K cl r o) (ha : PE X a (tV X.K cl E f)) (hl : PO X lo (tP X.K cl E g)) (hu : PO X hi (tP X.K cl E h)) :
    PE X (.Subscript a (.Slice lo hi none p2) pos) (tO X.K cl E (eSl o f g h)) := by
  refine PE.imp (pe_slice hr ha hl hu) fun σ H Q ⟨F, fp, ρ, sr, q⟩ => ?_
  refine wp_bindO sr q fun x dx ρ1 F1 H1 fp1 st1 sr1 rx q1 => ?_
  refine wp_bindO sr1 q1 fun l l' ρ2 F2 H2 fp2 st2 sr2 ry q2 => ?_
  subst ry
  refine wp_bindO sr2 q2 fun u u' ρ3 F3 H3 fp3 st3 sr3 rz q3 => ?_
  subst rz
  obtain ⟨o', e, fin⟩ := fin_opt sr3 q3
  exact hp F3 H3 x l u dx o' Q sr3.le ((rx.mono st2.le dx).mono st3.le dx) e fin
def fldD (cs : List Nat) (f : Str) : D → Option O
  | .ins c fs => if c ∈ cs then (fs.lookup f).map O.sh else none
  | _ => none
theorem m_fld {n : Str} {cs : List Nat} {f : Env → Res D} (ow : ∀ c, c ∈ cs → Cls X.K (cl c) ∧ NoAttr X.K (cl c) n) (he : PE X e (tV X.K cl E f)) (hb : attributeBase e n X.env (eval e X.env) = eval e X.env := by rfl) :
    PE X (.Attribute e n pos) (tO X.K cl E (e1 (fldD cs n) f)) := by
  refine PE.imp (pe_fld he hb) fun σ H Q ⟨F, fp, ρ, sr, q⟩ => ?_
  refine wp_bindO sr q fun x dx ρ1 F1 H1 fp1 st1 sr1 rx q1 => ?_
  obtain ⟨o', e, fin⟩ := fin_opt sr1 q1
  cases dx with
  | ins c fs =>
    cases rx with
    | ins ha hf =>
      have e : (if c ∈ cs then (fs.lookup n).map O.sh else none) = some o' := e
      by_cases hc : c ∈ cs
      · rw [if_pos hc] at e
        cases l : fs.lookup n with
        | none => rw [l] at e; cases e
        | some d =>
          rw [l] at e
          cases e
          obtain ⟨v, hv, rv⟩ := hf.look l
          exact ⟨_, _, _, _, v, rfl, sr1.le _ _ ha, (ow c hc).1, (ow c hc).2, hv, fin.sh sr1.le rv⟩
      · rw [if_neg hc] at e
        cases e
  | _ => cases e
theorem m_cb {id : String} {r : List V → Hp → VK → Prop} {o : List D → Option O} {x : Str} {p : Pos} {f : Env → Res (List D)} (hc : CallR X (.builtin id) r) (hp : PrN X.K cl r o) (hg : Gl X x) (hm : X.mg x = none) (hv : bootBuiltins x = some (.builtin id)) (ha : PA X (e :: es) (tA X.K cl E f))
    (hn : x ≠ "__name__" := by decide) (hdb : (x == ("__debug__" : Str)) = false := by decide) (he : starEach (e :: es) X.env = (false, eval e X.env) :: starEach es X.env := by rfl) (hpl : (backTo pos (starEach es X.env)).any (·.1) = false := by rfl) :
    PE X (.Call (.Name x p) (e :: es) [] pos) (tO X.K cl E (eN o f)) := by
  refine PE.imp (pe_callB hc hg hm hv ha hn hdb he hpl) fun σ H Q ⟨F, fp, ρ, sr, q⟩ => ?_
  refine wp_bindO sr q fun xs ds ρ1 F1 H1 fp1 st1 sr1 rs q1 => ?_
  obtain ⟨o', e, fin⟩ := fin_opt sr1 q1
  exact hp F1 H1 xs ds o' Q sr1.le rs e fin
theorem m_ct {T : String} {r : List V → Hp → VK → Prop} {o : List D → Option O} {x : Str} {p : Pos} {f : Env → Res (List D)} (hc : CallR X (.type T) r) (hp : PrN X.K cl r o) (hg : Gl X x) (hm : X.mg x = none) (hv : bootBuiltins x = some (.type T)) (ha : PA X (e :: es) (tA X.K cl E f))
    (hn : x ≠ "__name__" := by decide) (hdb : (x == ("__debug__" : Str)) = false := by decide) (he : starEach (e :: es) X.env = (false, eval e X.env) :: starEach es X.env := by rfl) (hpl : (backTo pos (starEach es X.env)).any (·.1) = false := by rfl) :
    PE X (.Call (.Name x p) (e :: es) [] pos) (tO X.K cl E (eN o f)) := by
  refine PE.imp (pe_callTy hc hg hm hv ha hn hdb he hpl) fun σ H Q ⟨F, fp, ρ, sr, q⟩ => ?_
  refine wp_bindO sr q fun xs ds ρ1 F1 H1 fp1 st1 sr1 rs q1 => ?_
  obtain ⟨o', e, fin⟩ := fin_opt sr1 q1
  exact hp F1 H1 xs ds o' Q sr1.le rs e fin
end
end Tk

set_option Elab.async false
set_option linter.all false
set_option maxRecDepth 100000
set_option maxHeartbeats 4000000
namespace Tk
open PySem PySem.Spec PyProof.Rows L2

/-! ## statements by data -/
inductive SRes where
  | nx (r : Env) | rt (o : O) (r : Env) | bk (r : Env) | ct (r : Env) | ex (c : Nat) (d : List (Str × D)) (r : Env) | no
def Kept (kp : List Nat) (σ σ' : L2.St) : Prop := ∀ i ∈ kp, σ'[i]? = σ[i]?
theorem Kept.refl {kp : List Nat} {σ : L2.St} : Kept kp σ σ := fun _ _ => rfl
theorem Kept.trans {kp : List Nat} {σ σ' σ2 : L2.St} (a : Kept kp σ σ') (b : Kept kp σ' σ2) : Kept kp σ σ2 := fun i hi => (b i hi).trans (a i hi)
theorem Kept.set {kp : List Nat} {σ : L2.St} {i : Nat} {x : Option V} (h : i ∉ kp) : Kept kp σ (σ.set i x) := fun j hj => List.getElem?_set_ne (fun (e : i = j) => h (by rw [e]; exact hj))
section
variable (K : PySem.W.Frag) (cl : Nat → Addr) (E : XK) (kp : List Nat)
def wpN (ρ : Env) (F H : Hp) (fp : List Addr) (σ : L2.St) (Q : L2.St → Hp → Prop) : Prop := ∀ σ' F' H' fp', Stp F H fp F' H' fp' → SR K cl F' H' σ' ρ fp' → Kept kp σ σ' → Q σ' H'
def wpS (r : SRes) (F H : Hp) (fp : List Addr) (σ : L2.St) (D : Ends) : Prop := match r with
  | .nx ρ => wpN K cl kp ρ F H fp σ D.nx
  | .bk ρ => wpN K cl kp ρ F H fp σ D.bk
  | .ct ρ => wpN K cl kp ρ F H fp σ D.ct
  | .rt o ρ => ∀ v σ' F' H' fv fp', Stp F H fp F' H' (fv ++ fp') → Same F' H' → REnv K cl F' H' σ' ρ fp' → ROwn K cl F' H' v o fv → (fv ++ fp').Nodup → Kept kp σ σ' → D.rt v H'
  | .ex c fs ρ => ∀ σ' F' H' fp' vs dd, Stp F H fp F' H' fp' → SR K cl F' H' σ' ρ fp' → Kept kp σ σ' → Fds K cl F' vs fs → H' dd = some (.xd vs) → E (.ref (cl c)) (some dd) H'
  | .no => False
def tS (f : Env → SRes) : TS := fun D σ H => ∃ F fp ρ, SR K cl F H σ ρ fp ∧ wpS K cl E kp (f ρ) F H fp σ D
end
section
variable {K : PySem.W.Frag} {cl : Nat → Addr} {E : XK} {kp : List Nat} {F F1 H H1 : Hp} {fp fp1 : List Addr} {σ σ1 : L2.St} {ρ : Env}
theorem wpN.trans {Q : L2.St → Hp → Prop} (s : Stp F H fp F1 H1 fp1) (k : Kept kp σ σ1) (h : wpN K cl kp ρ F H fp σ Q) : wpN K cl kp ρ F1 H1 fp1 σ1 Q :=
  fun σ' F' H' fp' st sr kk => h σ' F' H' fp' (s.trans st) sr (k.trans kk)
theorem wpS.trans {r : SRes} {D : Ends} (s : Stp F H fp F1 H1 fp1) (k : Kept kp σ σ1) (h : wpS K cl E kp r F H fp σ D) : wpS K cl E kp r F1 H1 fp1 σ1 D := by
  cases r with
  | nx ρ => exact wpN.trans s k h
  | bk ρ => exact wpN.trans s k h
  | ct ρ => exact wpN.trans s k h
  | rt o ρ => exact fun v σ' F' H' fv fp' st sm re ro n kk => h v σ' F' H' fv fp' (s.trans st) sm re ro n (k.trans kk)
  | ex c fs ρ => exact fun σ' F' H' fp' vs dd st sr kk r e => h σ' F' H' fp' vs dd (s.trans st) sr (k.trans kk) r e
  | no => exact h
/-- behind an expression -/
def sB {α : Type} (r : Res α) (k : α → Env → SRes) : SRes := match r with
  | .ok a r => k a r
  | .ex c d r => .ex c d r
  | .no => .no
@[simp] theorem sB_ok {α : Type} {a : α} {r : Env} {k : α → Env → SRes} : sB (.ok a r) k = k a r := rfl
@[simp] theorem sB_ex {α : Type} {c : Nat} {d : List (Str × D)} {r : Env} {k : α → Env → SRes} : sB (.ex c d r : Res α) k = .ex c d r := rfl
@[simp] theorem sB_no {α : Type} {k : α → Env → SRes} : sB (.no : Res α) k = .no := rfl
theorem wp_S {β α : Type} {rel : Rel β α} {f : Env → Res α} {k : α → Env → SRes} {D : Ends} {Q1 : β → Hp → Prop} (sr : SR K cl F H σ ρ fp) (h : wpS K cl E kp (sB (f ρ) k) F H fp σ D)
    (n : ∀ b a ρ1 F1 H1 fp1, Stp F H fp F1 H1 fp1 → SR K cl F1 H1 σ ρ1 fp1 → rel σ F1 b a → wpS K cl E kp (k a ρ1) F1 H1 fp1 σ D → Q1 b H1) : tM K cl E rel f σ H Q1 := by
  refine ⟨F, fp, ρ, sr, ?_⟩
  cases e : f ρ with
  | ok a r =>
    rw [e] at h
    exact fun b F' H' fp' st sr' q => n b a r F' H' fp' st sr' q (wpS.trans st Kept.refl h)
  | ex c fs r =>
    rw [e] at h
    exact fun F' H' fp' vs dd st sr r e => h σ F' H' fp' vs dd st sr Kept.refl r e
  | no =>
    rw [e] at h
    exact h.elim
theorem wp_SO {f : Env → Res O} {k : O → Env → SRes} {D : Ends} {Q1 : VK} (sr : SR K cl F H σ ρ fp) (h : wpS K cl E kp (sB (f ρ) k) F H fp σ D)
    (n : ∀ v o ρ1 F1 H1 fv fp1, Stp F H fp F1 H1 (fv ++ fp1) → Same F1 H1 → REnv K cl F1 H1 σ ρ1 fp1 → ROwn K cl F1 H1 v o fv → (fv ++ fp1).Nodup → wpS K cl E kp (k o ρ1) F1 H1 (fv ++ fp1) σ D → Q1 v H1) : tO K cl E f σ H Q1 := by
  refine ⟨F, fp, ρ, sr, ?_⟩
  cases e : f ρ with
  | ok a r =>
    rw [e] at h
    exact fun v F' H' fv fp' st sm re ro nd => n v a r F' H' fv fp' st sm re ro nd (wpS.trans st Kept.refl h)
  | ex c fs r =>
    rw [e] at h
    exact fun F' H' fp' vs dd st sr r e => h σ F' H' fp' vs dd st sr Kept.refl r e
  | no =>
    rw [e] at h
    exact h.elim
theorem wpN.now {Q : L2.St → Hp → Prop} (h : wpN K cl kp ρ F H fp σ Q) {σ' : L2.St} {fp' : List Addr} (st : Stp F H fp F H fp') (sr : SR K cl F H σ' ρ fp') (k : Kept kp σ σ') : Q σ' H := h σ' F H fp' st sr k
/-- a slot is set, whatever its place -/
theorem REnv.setA {v : V} {o : O} {fv : List Addr} {i : Nat} (re : REnv K cl F H σ ρ fp) (ro : ROwn K cl F H v o fv) (n : (fv ++ fp).Nodup) :
    ∃ fp', REnv K cl F H (σ.set i (some v)) (ρ.set i (some o)) fp' ∧ fp'.Nodup ∧ ∀ a ∈ fp', a ∈ fv ++ fp := by
  have nn := List.nodup_append.mp n
  by_cases hi : i < σ.length
  · obtain ⟨fp', r, n', m⟩ := REnv.set i re ro nn.2.1 nn.1 (fun a ha hb => nn.2.2 a ha a hb rfl) hi
    exact ⟨fp', r, n', fun a ha => (m a ha).elim (fun z => List.mem_append_right _ z) fun z => List.mem_append_left _ z⟩
  · have hl := re.length
    rw [List.set_eq_of_length_le (by omega), List.set_eq_of_length_le (by omega)]
    exact ⟨fp, re, nn.2.1, fun a ha => List.mem_append_right _ ha⟩
theorem REnv.setD {v : V} {d : D} {i : Nat} (sr : SR K cl F H σ ρ fp) (r : Rep K cl F v d) : ∃ fp', SR K cl F H (σ.set i (some v)) (ρ.set i (some (.sh d))) fp' ∧ ∀ a ∈ fp', a ∈ fp := by
  obtain ⟨fp', re, n, m⟩ := REnv.setA (i := i) sr.env (.sh r) sr.nd
  exact ⟨fp', ⟨sr.le, re, n⟩, m⟩
theorem Stp.sub {fp' : List Addr} (h : ∀ a ∈ fp', a ∈ fp) : Stp F H fp F H fp' := Stp.weaken Stp.refl h
end

section
variable {X : Cx} {cl : Nat → Addr} {E : XK} {kp : List Nat} {a b c e : Expr} {pos : Pos} {st : Stmt} {rest : List Stmt}
def sSeq (f g : Env → SRes) : Env → SRes := fun ρ => match f ρ with
  | .nx r => g r
  | x => x
theorem s_seq {f g : Env → SRes} (h1 : PS X st (tS X.K cl E kp f)) (h2 : PSs X rest (tS X.K cl E kp g)) : PSs X (st :: rest) (tS X.K cl E kp (sSeq f g)) := by
  refine PSs.imp (pss_cons h1 h2) fun D σ H ⟨F, fp, ρ, sr, q⟩ => ?_
  refine ⟨F, fp, ρ, sr, ?_⟩
  unfold sSeq at q
  cases e : f ρ with
  | nx r =>
    rw [e] at q
    exact fun σ' F' H' fp' s sr' k => ⟨F', fp', r, sr', wpS.trans s k q⟩
  | rt o r => rw [e] at q; exact q
  | bk r => rw [e] at q; exact q
  | ct r => rw [e] at q; exact q
  | ex c d r => rw [e] at q; exact q
  | no => rw [e] at q; exact q
theorem s_one {f : Env → SRes} (h1 : PS X st (tS X.K cl E kp f)) : PSs X [st] (tS X.K cl E kp f) := pss_one h1
def sNil : Env → SRes := fun ρ => .nx ρ
theorem s_nil : PSs X [] (tS X.K cl E kp sNil) := PSs.imp pss_nil fun D σ H ⟨F, fp, ρ, sr, q⟩ => q σ F H fp Stp.refl sr Kept.refl
theorem s_no : PS X st (tS X.K cl E kp fun _ => .no) := ⟨fun _ _ _ _ _ _ ⟨_, _, _, _, q⟩ => q.elim⟩
theorem ss_no {l : List Stmt} : PSs X l (tS X.K cl E kp fun _ => .no) := ⟨fun _ _ _ _ _ _ ⟨_, _, _, _, q⟩ => q.elim⟩
theorem s_pass : PS X (.Pass pos) (tS X.K cl E kp sNil) := PS.imp ps_pass fun D σ H ⟨F, fp, ρ, sr, q⟩ => q σ F H fp Stp.refl sr Kept.refl
/-- name = e: te is the term's own reading -/
def sSet (i : Nat) (f : Env → Res O) : Env → SRes := fun ρ => sB (f ρ) fun o r => .nx (r.set i (some o))
theorem s_set_of {i : Nat} {te : TE} {f : Env → Res O} (h : PS X st (tAsg te (gName i))) (hk : i ∉ kp) (he : ∀ σ H Q, tO X.K cl E f σ H Q → te σ H Q) : PS X st (tS X.K cl E kp (sSet i f)) := by
  refine PS.imp h fun D σ H ⟨F, fp, ρ, sr, q⟩ => ?_
  refine he σ H _ (wp_SO sr q fun v o ρ1 F1 H1 fv fp1 st1 sm re ro n q1 => ?_)
  obtain ⟨fp', r, n', m⟩ := REnv.setA (i := i) re ro n
  exact q1 _ F1 H1 fp' (Stp.sub m) ⟨sm, r, n'⟩ (Kept.set hk)
theorem s_set {i : Nat} {x : Str} {pos' : Pos} {f : Env → Res O} (hN : X.N.Nodup) (hi : X.N[i]? = some x) (hx : Loc X.env.scope x) (he : PE X e (tO X.K cl E f)) (hk : i ∉ kp := by decide) (hs : swapsWith e (some (.Name x pos')) pos.line X.env = pure false := by rfl)
    (hf : X.fn x = true ∨ X.env.scope.names.lookup x = some .local := by first | exact .inl rfl | exact .inr rfl | assumption) : PS X (.Assign [.Name x pos'] e pos) (tS X.K cl E kp (sSet i f)) :=
  s_set_of (ps_set hN hi hx he hs hf) hk fun _ _ _ q => q
def sEx (f : Env → Res D) : Env → SRes := fun ρ => sB (f ρ) fun _ r => .nx r
theorem s_ex {f : Env → Res D} (he : PE X e (tV X.K cl E f)) (hs : swapsWith e none pos.line X.env = pure false := by rfl) : PS X (.Expr e pos) (tS X.K cl E kp (sEx f)) := by
  refine PS.imp (ps_expr he hs) fun D σ H ⟨F, fp, ρ, sr, q⟩ => ?_
  exact wp_S sr q fun v d ρ1 F1 H1 fp1 st1 sr1 rv q1 => q1 σ F1 H1 fp1 Stp.refl sr1 Kept.refl
def sRet (f : Env → Res O) : Env → SRes := fun ρ => sB (f ρ) fun o r => .rt o r
theorem s_ret {f : Env → Res O} (he : PE X e (tO X.K cl E f)) : PS X (.Return (some e) pos) (tS X.K cl E kp (sRet f)) := by
  refine PS.imp (ps_ret he) fun D σ H ⟨F, fp, ρ, sr, q⟩ => ?_
  exact wp_SO sr q fun v o ρ1 F1 H1 fv fp1 st1 sm re ro n q1 => q1 v σ F1 H1 fv fp1 Stp.refl sm re ro n Kept.refl
def sRetN : Env → SRes := fun ρ => .rt (.sh .non) ρ
theorem s_retN : PS X (.Return none pos) (tS X.K cl E kp sRetN) := by
  refine PS.imp ps_retN fun D σ H ⟨F, fp, ρ, sr, q⟩ => ?_
  exact q .non σ F H [] fp Stp.refl sr.le sr.env (.sh .non) sr.nd Kept.refl
def sIf (t : Env → Res Bool) (f g : Env → SRes) : Env → SRes := fun ρ => sB (t ρ) fun k r => if k = true then f r else g r
theorem s_if {p q : List Stmt} {t : Env → Res Bool} {f g : Env → SRes} (hc : PT X c (tT X.K cl E t)) (ha : PSs X p (tS X.K cl E kp f)) (hb : PSs X q (tS X.K cl E kp g)) : PS X (.If c p q pos) (tS X.K cl E kp (sIf t f g)) := by
  refine PS.imp (ps_if hc ha hb) fun D σ H ⟨F, fp, ρ, sr, q⟩ => ?_
  refine wp_S sr q fun k k' ρ1 F1 H1 fp1 st1 sr1 rk q1 => ?_
  subst rk
  cases k with
  | true => exact iteT ⟨F1, fp1, ρ1, sr1, q1⟩
  | false => exact iteF ⟨F1, fp1, ρ1, sr1, q1⟩
def sBrk : Env → SRes := fun ρ => .bk ρ
def sCnt : Env → SRes := fun ρ => .ct ρ
theorem s_brk : PS X (.Break pos) (tS X.K cl E kp sBrk) := PS.imp ps_break fun D σ H ⟨F, fp, ρ, sr, q⟩ => q σ F H fp Stp.refl sr Kept.refl
theorem s_cnt : PS X (.Continue pos) (tS X.K cl E kp sCnt) := PS.imp ps_continue fun D σ H ⟨F, fp, ρ, sr, q⟩ => q σ F H fp Stp.refl sr Kept.refl

/-! ## targets -/
def Off (vs : List Nat) (σ σ' : L2.St) : Prop := σ'.length = σ.length ∧ ∀ i, i ∉ vs → σ'[i]? = σ[i]?
theorem Off.trans {vs : List Nat} {σ σ' σ2 : L2.St} (x : Off vs σ σ') (y : Off vs σ' σ2) : Off vs σ σ2 := ⟨y.1.trans x.1, fun i hi => (y.2 i hi).trans (x.2 i hi)⟩
theorem Off.kept {vs : List Nat} {σ σ' : L2.St} (x : Off vs σ σ') (h : ∀ i ∈ kp, i ∉ vs) : Kept kp σ σ' := fun i hi => x.2 i (h i hi)
def tG (K : PySem.W.Frag) (cl : Nat → Addr) (vs : List Nat) (b : D → Env → Option Env) : TG := fun v σ H Q => ∃ F fp ρ d, SR K cl F H σ ρ fp ∧ Rep K cl F v d ∧ ∃ ρ', b d ρ = some ρ' ∧ ∀ σ' fp', SR K cl F H σ' ρ' fp' → (∀ a ∈ fp', a ∈ fp) → Off vs σ σ' → Q σ' H
def tGs (K : PySem.W.Frag) (cl : Nat → Addr) (vs : List Nat) (b : List D → Env → Option Env) : TGs := fun us σ H Q => ∃ F fp ρ ds, SR K cl F H σ ρ fp ∧ Reps K cl F us ds ∧ ∃ ρ', b ds ρ = some ρ' ∧ ∀ σ' fp', SR K cl F H σ' ρ' fp' → (∀ a ∈ fp', a ∈ fp) → Off vs σ σ' → Q σ' H
def gN (i : Nat) : D → Env → Option Env := fun d ρ => some (ρ.set i (some (.sh d)))
def gT (b : List D → Env → Option Env) : D → Env → Option Env := fun d ρ => match d with
  | .tup ds => b ds ρ
  | _ => none
/-- a tuple or a list -/
def gTL (b : List D → Env → Option Env) : D → Env → Option Env := fun d ρ => match d with
  | .tup ds => b ds ρ
  | .lst ds => b ds ρ
  | _ => none
def gE : List D → Env → Option Env := fun ds ρ => match ds with
  | [] => some ρ
  | _ => none
def gC (b : D → Env → Option Env) (c : List D → Env → Option Env) : List D → Env → Option Env := fun ds ρ => match ds with
  | [] => none
  | d :: r => (b d ρ).bind (c r)
theorem PG.imp {tg : Expr} {t t' : TG} (h : PG X tg t) (i : ∀ v σ H Q, t' v σ H Q → t v σ H Q) : PG X tg t' := ⟨fun pins s σ H v u Q I r q => h.run pins s σ H v u Q I r (i v σ H Q q)⟩
theorem PGs.imp {tg : List Expr} {t t' : TGs} (h : PGs X tg t) (i : ∀ v σ H Q, t' v σ H Q → t v σ H Q) : PGs X tg t' := ⟨fun pins s σ H v u Q I r q => h.run pins s σ H v u Q I r (i v σ H Q q)⟩
theorem g_name {i : Nat} {x : Str} (hN : X.N.Nodup) (hi : X.N[i]? = some x) (hx : Loc X.env.scope x) (hf : X.fn x = true ∨ X.env.scope.names.lookup x = some .local := by first | exact .inl rfl | exact .inr rfl | assumption) : PG X (.Name x pos) (tG X.K cl [i] (gN i)) := by
  refine PG.imp (pg_name hN hi hx hf) fun v σ H Q ⟨F, fp, ρ, d, sr, r, ρ', e, q⟩ => ?_
  cases e
  obtain ⟨fp', sr', m⟩ := REnv.setD (i := i) sr r
  exact q _ fp' sr' m ⟨List.length_set, fun j hj => List.getElem?_set_ne fun e => hj (by simp [e])⟩
theorem gs_nil : PGs X [] (tGs X.K cl [] gE) := by
  refine PGs.imp pgs_nil fun v σ H Q ⟨F, fp, ρ, ds, sr, r, ρ', e, q⟩ => ?_
  cases ds with
  | nil =>
    cases e
    exact ⟨r.nil_inv, q σ fp sr (fun _ h => h) ⟨rfl, fun _ _ => rfl⟩⟩
  | cons d r => cases e
theorem Off.mono {vs vs' : List Nat} {σ σ' : L2.St} (x : Off vs σ σ') (h : ∀ i ∈ vs, i ∈ vs') : Off vs' σ σ' := ⟨x.1, fun i hi => x.2 i fun z => hi (h i z)⟩
theorem gs_cons {es : List Expr} {vs ws : List Nat} {b : D → Env → Option Env} {c : List D → Env → Option Env} (h1 : PG X e (tG X.K cl vs b)) (h2 : PGs X es (tGs X.K cl ws c))
    (hs : (assignEach (e :: es) X.env).map (·.2) = assign e X.env :: (assignEach es X.env).map (·.2) := by rfl) : PGs X (e :: es) (tGs X.K cl (vs ++ ws) (gC b c)) := by
  refine PGs.imp (pgs_cons h1 h2 hs) fun us σ H Q ⟨F, fp, ρ, ds, sr, r, ρ', e, q⟩ => ?_
  cases ds with
  | nil => cases e
  | cons d ds =>
    obtain ⟨v, us, rfl, rv, rs⟩ := r.cons_inv
    cases e1 : b d ρ with
    | none => have e' : (b d ρ).bind (c ds) = some ρ' := e; rw [e1] at e'; cases e'
    | some ρ1 =>
      have e' : (b d ρ).bind (c ds) = some ρ' := e
      rw [e1] at e'
      refine ⟨v, us, rfl, F, fp, ρ, d, sr, rv, ρ1, e1, fun σ1 fp1 sr1 m1 o1 => ?_⟩
      exact ⟨F, fp1, ρ1, ds, sr1, rs, ρ', e', fun σ2 fp2 sr2 m2 o2 => q σ2 fp2 sr2 (fun a ha => m1 a (m2 a ha)) ((o1.mono fun i hi => List.mem_append_left _ hi).trans (o2.mono fun i hi => List.mem_append_right _ hi))⟩
theorem g_tup {es : List Expr} {k n : Nat} {vs : List Nat} {b : List D → Env → Option Env} (hc : X.calm = true) (h : PGs X es (tGs X.K cl vs b)) (hb : ∀ ds ρ ρ', b ds ρ = some ρ' → ds.length = n)
    (hn : (assignEach es X.env).length = n := by rfl) (hst : (assignEach es X.env).findIdx? (·.1) = none := by rfl) : PG X (.Tuple es k pos) (tG X.K cl vs (gT b)) := by
  refine PG.imp (pg_tup hc h hn hst) fun v σ H Q ⟨F, fp, ρ, d, sr, r, ρ', e, q⟩ => ?_
  cases d with
  | tup ds =>
    have e : b ds ρ = some ρ' := e
    cases r with
    | tup ha rs => exact ⟨_, _, rfl, seqT sr.le ha, by rw [rs.length, hb _ _ _ e], F, fp, ρ, ds, sr, rs, ρ', e, q⟩
  | _ => cases e
theorem PG.or {tg : Expr} {t t' : TG} (h : PG X tg t) (h' : PG X tg t') : PG X tg (fun v σ H Q => t v σ H Q ∨ t' v σ H Q) := ⟨fun pins s σ H v u Q I r q => q.elim (h.run pins s σ H v u Q I r) (h'.run pins s σ H v u Q I r)⟩
/-- targets of a tuple or a list -/
theorem g_tupL {es : List Expr} {k n : Nat} {vs : List Nat} {b : List D → Env → Option Env} (hc : X.calm = true) (h : PGs X es (tGs X.K cl vs b)) (hb : ∀ ds ρ ρ', b ds ρ = some ρ' → ds.length = n)
    (hn : (assignEach es X.env).length = n := by rfl) (hst : (assignEach es X.env).findIdx? (·.1) = none := by rfl) : PG X (.Tuple es k pos) (tG X.K cl vs (gTL b)) := by
  refine PG.imp (PG.or (pg_tup hc h hn hst) (pg_unl hc h hn hst)) fun v σ H Q ⟨F, fp, ρ, d, sr, r, ρ', e, q⟩ => ?_
  cases d with
  | tup ds =>
    have e : b ds ρ = some ρ' := e
    cases r with
    | tup ha rs => exact .inl ⟨_, _, rfl, seqT sr.le ha, by rw [rs.length, hb _ _ _ e], F, fp, ρ, ds, sr, rs, ρ', e, q⟩
  | lst ds =>
    have e : b ds ρ = some ρ' := e
    cases r with
    | lst ha rs => exact .inr ⟨_, _, rfl, .inl (.inl (sr.le _ _ ha)), by rw [rs.length, hb _ _ _ e], F, fp, ρ, ds, sr, rs, ρ', e, q⟩
  | _ => cases e
theorem gE_len : ∀ ds ρ ρ', gE ds ρ = some ρ' → ds.length = 0 := fun ds ρ ρ' h => by
  cases ds with
  | nil => rfl
  | cons d r => cases h
theorem gC_len {n : Nat} {b : D → Env → Option Env} {c : List D → Env → Option Env} (h : ∀ ds ρ ρ', c ds ρ = some ρ' → ds.length = n) : ∀ ds ρ ρ', gC b c ds ρ = some ρ' → ds.length = n + 1 := fun ds ρ ρ' e => by
  cases ds with
  | nil => cases e
  | cons d r =>
    have e' : (b d ρ).bind (c r) = some ρ' := e
    cases e1 : b d ρ with
    | none => rw [e1] at e'; cases e'
    | some ρ1 => rw [e1] at e'; rw [List.length_cons, h _ _ _ e']
/-- targets = e -/
def sAsg (b : D → Env → Option Env) (f : Env → Res D) : Env → SRes := fun ρ => sB (f ρ) fun d r => match b d r with
  | some r' => .nx r'
  | none => .no
theorem s_asg {tg : Expr} {vs : List Nat} {b : D → Env → Option Env} {f : Env → Res D} (he : PE X e (tV X.K cl E f)) (hg : PG X tg (tG X.K cl vs b)) (hk : ∀ i ∈ kp, i ∉ vs := by decide) (hs : swapsWithSole [tg] e pos.line X.env = pure false := by rfl) (hw : swappedStores [tg] e X.env = pure none := by rfl)
    (h1 : (assignEach [tg] X.env).map (·.2) = [assign tg X.env] := by rfl) : PS X (.Assign [tg] e pos) (tS X.K cl E kp (sAsg b f)) := by
  refine PS.imp (ps_asg he hg hs hw h1) fun D σ H ⟨F, fp, ρ, sr, q⟩ => ?_
  refine wp_S sr q fun v d ρ1 F1 H1 fp1 st1 sr1 rv q1 => ?_
  cases e1 : b d ρ1 with
  | none => rw [e1] at q1; exact q1.elim
  | some ρ' =>
    rw [e1] at q1
    exact ⟨F1, fp1, ρ1, d, sr1, rv, ρ', e1, fun σ' fp' sr' m o => q1 σ' F1 H1 fp' (Stp.sub m) sr' (o.kept hk)⟩

/-! ## what is walked -/
def IW (K : PySem.W.Frag) (cl : Nat → Addr) (F : Hp) (J : It) (ds : List D) : Prop := ∀ F2 H2, Same F F2 → Same F2 H2 →
  (∀ (i : Nat) (d : D), ds[i]? = some d → J.go i H2 ∧ ∀ x H3, J.yld i H2 x H3 → ∃ F3, Grow F2 H2 F3 H3 ∧ Rep K cl F3 x d) ∧ J.stop ds.length H2
theorem IW.mono {K : PySem.W.Frag} {F F' : Hp} {J : It} {ds : List D} (h : IW K cl F J ds) (s : Same F F') : IW K cl F' J ds := fun F2 H2 a b => h F2 H2 (s.trans a) b
abbrev rI (K : PySem.W.Frag) (cl : Nat → Addr) : Rel It (List D) := fun _ F J ds => IW K cl F J ds ∧ ds.length ≤ sizeLine
abbrev tI (K : PySem.W.Frag) (cl : Nat → Addr) (E : XK) (f : Env → Res (List D)) : TI := tM K cl E (rI K cl) f
theorem PI.imp {tg : Expr} {t t' : TI} (h : PI X tg e t) (i : ∀ σ H R, t' σ H R → t σ H R) : PI X tg e t' := ⟨fun pins s σ H R I q => h.run pins s σ H R I (i σ H R q)⟩
theorem iw_list {K : PySem.W.Frag} {F : Hp} {a : Addr} {xs : List V} {ds : List D} (h : SqL K F a xs) (r : Reps K cl F xs ds) : IW K cl F (Itl K a) ds := by
  intro F2 H2 s1 s2
  have q : SqL K H2 a xs := s2.seq (s1.seq h)
  refine ⟨fun i d e => ?_, xs, q, by rw [r.length]; exact Nat.le_refl _⟩
  obtain ⟨v, hv, rv⟩ := r.get e
  refine ⟨⟨xs, v, q, hv⟩, fun x H3 ⟨e3, y⟩ => ?_⟩
  subst e3
  have : x = v := Option.some.inj ((y xs q).symm.trans hv)
  subst this
  exact ⟨F2, Grow.refl s2, rv.mono s1 d⟩
theorem iw_tup {K : PySem.W.Frag} {F : Hp} {a : Addr} {xs : List V} {ds : List D} (h : SqT K F a xs) (r : Reps K cl F xs ds) : IW K cl F (Itt K a) ds := by
  intro F2 H2 s1 s2
  have q : SqT K H2 a xs := seqT s2 (seqT s1 h)
  refine ⟨fun i d e => ?_, xs, q, by rw [r.length]; exact Nat.le_refl _⟩
  obtain ⟨v, hv, rv⟩ := r.get e
  refine ⟨⟨xs, v, q, hv⟩, fun x H3 ⟨e3, y⟩ => ?_⟩
  subst e3
  have : x = v := Option.some.inj ((y xs q).symm.trans hv)
  subst this
  exact ⟨F2, Grow.refl s2, rv.mono s1 d⟩
def iSeqU (K : PySem.W.Frag) (tl : TE) : TI := fun σ H R => tl σ H fun x H1 => ∃ a, x = .ref a ∧ ((∃ xs, SqL K H1 a xs ∧ (xs.length ≤ sizeLine → R (Itl K a) H1)) ∨ (∃ xs, SqT K H1 a xs ∧ (xs.length ≤ sizeLine → R (Itt K a) H1)))
theorem pi_seqU {tg l : Expr} {tl : TE} (hl : PE X l tl) : PI X tg l (iSeqU X.K tl) := by
  refine ⟨fun pins s σ H R I h => ?_⟩
  refine thn (hl.run pins s σ H _ I h) fun v s1 ⟨x, H1, I1, r1, q1⟩ => ?_
  obtain ⟨a, e, q1⟩ := q1
  subst e
  cases r1
  rcases q1 with ⟨xs, hq, q⟩ | ⟨xs, hq, q⟩
  · obtain ⟨its, rv, p, hz⟩ := I1.list hq
    refine wpAny_pyIter_list p.isList ?_
    refine ⟨s1.heap.objs.size, [s1.heap.objs.size], _, _, H1, rfl, I1.kept (t' := s1.toks) fun b o e => Heap.get?_push_of_some _ e, turn_list a _, ⟨_, Heap.get?_push_size _ rfl, rfl, rfl⟩, fun b hb => ?_, q hz⟩
    have e : b = s1.heap.objs.size := by simpa using hb
    subst e
    exact I1.fpOk (Nat.le_refl _) (I1.hok.fresh (Nat.le_refl _))
  · obtain ⟨its, rv, p, hz⟩ := I1.tuple hq
    refine wpAny_pyIter_tuple (show s1.heap.IsTuple a its.toArray from p) ?_
    refine ⟨s1.heap.objs.size, [s1.heap.objs.size], _, _, H1, rfl, I1.kept (t' := s1.toks) fun b o e => Heap.get?_push_of_some _ e, turn_tuple a _, ⟨_, Heap.get?_push_size _ rfl, rfl, rfl⟩, fun b hb => ?_, q hz⟩
    have e : b = s1.heap.objs.size := by simpa using hb
    subst e
    exact I1.fpOk (Nat.le_refl _) (I1.hok.fresh (Nat.le_refl _))
def seq? : D → Option (List D)
  | .lst ds => some ds
  | .tup ds => some ds
  | .scr ds => some ds
  | _ => none
def optL (x : Option (List D)) (ρ : Env) : Res (List D) := match x with
  | some ds => .ok ds ρ
  | none => .no
@[simp] theorem optL_some {x : List D} {ρ : Env} : optL (some x) ρ = .ok x ρ := rfl
def iSeq (f : Env → Res D) : Env → Res (List D) := fun ρ => (f ρ).bind fun d r => optL (seq? d) r
theorem i_seq {tg : Expr} {f : Env → Res D} (he : PE X e (tV X.K cl E f)) : PI X tg e (tI X.K cl E (iSeq f)) := by
  refine PI.imp (pi_seqU he) fun σ H R ⟨F, fp, ρ, sr, q⟩ => ?_
  refine wp_bindV sr q fun v d ρ1 F1 H1 fp1 st1 sr1 rv q1 => ?_
  cases d with
  | lst ds =>
    cases rv with
    | lst ha rs => exact ⟨_, rfl, .inl ⟨_, .inl (.inl (sr1.le _ _ ha)), fun hz => q1 _ F1 H1 fp1 Stp.refl sr1 ⟨iw_list (.inl (.inl ha)) rs, by rw [← rs.length]; exact hz⟩⟩⟩
  | scr ds =>
    cases rv with
    | scr ha rs => exact ⟨_, rfl, .inl ⟨_, sr1.le.seq ha, fun hz => q1 _ F1 H1 fp1 Stp.refl sr1 ⟨iw_list ha rs, by rw [← rs.length]; exact hz⟩⟩⟩
  | tup ds =>
    cases rv with
    | tup ha rs => exact ⟨_, rfl, .inr ⟨_, seqT sr1.le ha, fun hz => q1 _ F1 H1 fp1 Stp.refl sr1 ⟨iw_tup ha rs, by rw [← rs.length]; exact hz⟩⟩⟩
  | _ => exact q1.elim
def rngD (lo : Int) (n : Nat) : List D := (List.range n).map fun i : Nat => .int (lo + i)
theorem iw_range {K : PySem.W.Frag} {F : Hp} {lo : Int} {n : Nat} : IW K cl F (Itr lo n) (rngD lo n) := by
  intro F2 H2 s1 s2
  refine ⟨fun i d e => ?_, by show n ≤ (rngD lo n).length; simp [rngD]⟩
  have hi : i < n := by
    have := (List.getElem?_eq_some_iff.mp e).1
    simpa [rngD] using this
  refine ⟨hi, fun x H3 ⟨e3, y⟩ => ?_⟩
  subst e3 y
  have : d = .int (lo + i) := by
    unfold rngD at e
    rw [List.getElem?_map, List.getElem?_range hi] at e
    exact (Option.some.inj e).symm
  subst this
  exact ⟨F2, Grow.refl s2, .int _⟩
theorem rng_len {lo : Int} {n : Nat} (h : n ≤ 16777216) : (rngD lo n).length ≤ sizeLine := by
  rw [sizeLine_eq]
  simp only [rngD, List.length_map, List.length_range]
  exact h
def rng1 : List D → Option (List D)
  | [.int j] => if j.natAbs ≤ 16777216 then some (rngD 0 j.toNat) else none
  | _ => none
def rng2 : List D → Option (List D)
  | [.int i, .int j] => if i.natAbs ≤ 1073741824 ∧ j.natAbs ≤ 1073741824 ∧ (j - i).toNat ≤ 16777216 then some (rngD i (j - i).toNat) else none
  | _ => none
def iN (o : List D → Option (List D)) (f : Env → Res (List D)) : Env → Res (List D) := fun ρ => (f ρ).bind fun ds r => optL (o ds) r
theorem Reps.one {K : PySem.W.Frag} {F : Hp} {vs : List V} {d : D} (h : Reps K cl F vs [d]) : ∃ v, vs = [v] ∧ Rep K cl F v d := by
  obtain ⟨v, us, rfl, r, rs⟩ := h.cons_inv
  cases rs.nil_inv
  exact ⟨v, rfl, r⟩
theorem Reps.two {K : PySem.W.Frag} {F : Hp} {vs : List V} {d d' : D} (h : Reps K cl F vs [d, d']) : ∃ v v', vs = [v, v'] ∧ Rep K cl F v d ∧ Rep K cl F v' d' := by
  obtain ⟨v, us, rfl, r, rs⟩ := h.cons_inv
  obtain ⟨v', rfl, r'⟩ := rs.one
  exact ⟨v, v', rfl, r, r'⟩
theorem Reps.three {K : PySem.W.Frag} {F : Hp} {vs : List V} {d d' d2 : D} (h : Reps K cl F vs [d, d', d2]) : ∃ v v' v2, vs = [v, v', v2] ∧ Rep K cl F v d ∧ Rep K cl F v' d' ∧ Rep K cl F v2 d2 := by
  obtain ⟨v, us, rfl, r, rs⟩ := h.cons_inv
  obtain ⟨v', v2, rfl, r', r2⟩ := rs.two
  exact ⟨v, v', v2, rfl, r, r', r2⟩
theorem i_range1 {tg : Expr} {f : Env → Res (List D)} {p : Pos} (hg : Gl X "range") (hm : X.mg "range" = none) (ha : PA X [a] (tA X.K cl E f)) (hs : starEach [a] X.env = [(false, eval a X.env)] := by rfl) : PI X tg (.Call (.Name "range" p) [a] [] pos) (tI X.K cl E (iN rng1 f)) := by
  refine PI.imp (pi_range1 hg hm ha hs) fun σ H R ⟨F, fp, ρ, sr, q⟩ => ?_
  refine wp_bindV sr q fun vs ds ρ1 F1 H1 fp1 st1 sr1 rs q1 => ?_
  cases e : rng1 ds with
  | none => rw [e] at q1; exact q1.elim
  | some xs =>
    rw [e] at q1
    unfold rng1 at e
    split at e
    · split at e
      · rename_i j hj
        obtain ⟨v, rfl, r⟩ := rs.one
        cases r
        cases e
        exact ⟨j, rfl, by omega, by omega, q1 _ F1 H1 fp1 Stp.refl sr1 ⟨iw_range, rng_len (by omega)⟩⟩
      · cases e
    · cases e
theorem i_range2 {tg : Expr} {f : Env → Res (List D)} {p : Pos} (hg : Gl X "range") (hm : X.mg "range" = none) (ha : PA X [a, b] (tA X.K cl E f)) (hs : starEach [a, b] X.env = [(false, eval a X.env), (false, eval b X.env)] := by rfl) (hs2 : starEach [b] X.env = [(false, eval b X.env)] := by rfl) :
    PI X tg (.Call (.Name "range" p) [a, b] [] pos) (tI X.K cl E (iN rng2 f)) := by
  refine PI.imp (pi_range2 hg hm ha hs hs2) fun σ H R ⟨F, fp, ρ, sr, q⟩ => ?_
  refine wp_bindV sr q fun vs ds ρ1 F1 H1 fp1 st1 sr1 rs q1 => ?_
  cases e : rng2 ds with
  | none => rw [e] at q1; exact q1.elim
  | some xs =>
    rw [e] at q1
    unfold rng2 at e
    split at e
    · split at e
      · rename_i i j hj
        obtain ⟨v, v', rfl, r, r'⟩ := rs.two
        cases r
        cases r'
        cases e
        exact ⟨i, j, rfl, ⟨by omega, by omega, by omega, by omega⟩, q1 _ F1 H1 fp1 Stp.refl sr1 ⟨iw_range, rng_len (by omega)⟩⟩
      · cases e
    · cases e

/-! ## for -/
def forL (b : D → Env → Option Env) (body : Env → SRes) : List D → Env → SRes
  | [], ρ => .nx ρ
  | d :: ds, ρ => match b d ρ with
    | none => .no
    | some ρ1 => match body ρ1 with
      | .nx r => forL b body ds r
      | .ct r => forL b body ds r
      | .bk r => .nx r
      | x => x
def sFor (fi : Env → Res (List D)) (b : D → Env → Option Env) (body : Env → SRes) : Env → SRes := fun ρ => sB (fi ρ) fun ds r => forL b body ds r
theorem s_for {tg iter : Expr} {bd : List Stmt} {vs : List Nat} {fi : Env → Res (List D)} {b : D → Env → Option Env} {body : Env → SRes} (hp : PassesOwn (model X.prog X.w) X.A X.env X.xe) (hc : X.calm = true) (hi : PI X tg iter (tI X.K cl E fi)) (hg : PG X tg (tG X.K cl vs b))
    (hb : PSs X bd (tS X.K cl E kp body)) (hk : ∀ i ∈ kp, i ∉ vs := by decide) (hs : ∀ x, foldedSetIterable iter X.env x = pure x := by intro _; rfl) : PS X (.For tg iter bd [] pos) (tS X.K cl E kp (sFor fi b body)) := by
  refine PS.imp (ps_for hp hc hi hg hb hs) fun D σ H ⟨F, fp, ρ, sr, q⟩ => ?_
  refine wp_S sr q fun J ds ρ1 F1 H1 fp1 st1 sr1 ⟨iw, _⟩ q1 => ?_
  refine ⟨fun i m σ' H' => m = ds.length - i ∧ i ≤ ds.length ∧ ∃ F' fp' ρ', SR X.K cl F' H' σ' ρ' fp' ∧ Same F1 F' ∧ wpS X.K cl E kp (forL b body (ds.drop i) ρ') F' H' fp' σ' D,
    ⟨ds.length, rfl, Nat.zero_le _, F1, fp1, ρ1, sr1, Same.refl _, q1⟩, ?_⟩
  rintro i m σ' H' ⟨rfl, hi, F', fp', ρ', sr', sm, q'⟩
  obtain ⟨turn, stop⟩ := iw F' H' sm sr'.le
  by_cases hlt : i < ds.length
  · have ed : ds.drop i = ds[i] :: ds.drop (i + 1) := List.drop_eq_getElem_cons hlt
    obtain ⟨go, yl⟩ := turn i ds[i] (List.getElem?_eq_getElem hlt)
    refine .inr ⟨go, fun σ2 H2 => ∃ F2 fp2 ρ2, SR X.K cl F2 H2 σ2 ρ2 fp2 ∧ Same F1 F2 ∧ wpS X.K cl E kp (forL b body (ds.drop (i + 1)) ρ2) F2 H2 fp2 σ2 D, fun σ2 H2 ⟨F2, fp2, ρ2, s2, m2, q2⟩ => ⟨ds.length - (i + 1), by omega, rfl, hlt, F2, fp2, ρ2, s2, m2, q2⟩, fun x H3 y => ?_⟩
    obtain ⟨F3, g, rx⟩ := yl x H3 y
    have sr3 := sr'.grow g
    have q3 := wpS.trans (g.stp (fp := fp')) Kept.refl q'
    rw [ed] at q3
    unfold forL at q3
    cases e1 : b ds[i] ρ' with
    | none => rw [e1] at q3; exact q3.elim
    | some ρ4 =>
      rw [e1] at q3
      refine ⟨F3, fp', ρ', ds[i], sr3, rx, ρ4, e1, fun σ4 fp4 sr4 m4 o4 => ⟨F3, fp4, ρ4, sr4, ?_⟩⟩
      have q4 := wpS.trans (Stp.sub m4) (o4.kept hk) q3
      simp only at q4
      cases e2 : body ρ4 with
      | nx r =>
        rw [e2] at q4
        exact fun σ5 F5 H5 fp5 st5 sr5 k5 => ⟨F5, fp5, r, sr5, sm.trans (g.le.trans st5.le), wpS.trans st5 k5 q4⟩
      | ct r =>
        rw [e2] at q4
        exact fun σ5 F5 H5 fp5 st5 sr5 k5 => ⟨F5, fp5, r, sr5, sm.trans (g.le.trans st5.le), wpS.trans st5 k5 q4⟩
      | bk r => rw [e2] at q4; exact q4
      | rt o r => rw [e2] at q4; exact q4
      | ex c d r => rw [e2] at q4; exact q4
      | no => rw [e2] at q4; exact q4
  · have e : i = ds.length := by omega
    subst e
    rw [List.drop_length] at q'
    exact .inl ⟨stop, q' σ' F' H' fp' Stp.refl sr' Kept.refl⟩

/-! ## while -/
def whN (t : Env → Res Bool) (body : Env → SRes) : Nat → Env → SRes
  | 0, _ => .no
  | n + 1, ρ => sB (t ρ) fun k r => if k = true then (match body r with
      | .nx r' => whN t body n r'
      | .ct r' => whN t body n r'
      | .bk r' => .nx r'
      | x => x) else .nx r
open Classical in
noncomputable def sWh (t : Env → Res Bool) (body : Env → SRes) : Env → SRes := fun ρ => if h : ∃ n, whN t body n ρ ≠ .no then whN t body (choose h) ρ else .no
theorem s_while {bd : List Stmt} {t : Env → Res Bool} {body : Env → SRes} (hp : PassesOwn (model X.prog X.w) X.A X.env X.xe) (hc : PT X c (tT X.K cl E t)) (hb : PSs X bd (tS X.K cl E kp body)) : PS X (.While c bd [] pos) (tS X.K cl E kp (sWh t body)) := by
  refine PS.imp (ps_while hp hc hb) fun D σ H ⟨F, fp, ρ, sr, q⟩ => ?_
  have fin : ∀ n, wpS X.K cl E kp (whN t body n ρ) F H fp σ D → ∃ W : Nat → L2.St → Hp → Prop, (∃ m, W m σ H) ∧ ∀ m σ H, W m σ H → tT X.K cl E t σ H fun b H1 => if b = true then ∃ N : L2.St → Hp → Prop, (∀ σ' H', N σ' H' → ∃ m', m' < m ∧ W m' σ' H') ∧ tS X.K cl E kp body { D with nx := N, ct := N, bk := D.nx } σ H1 else D.nx σ H1 := by
    intro n qn
    refine ⟨fun m σ' H' => ∃ F' fp' ρ', SR X.K cl F' H' σ' ρ' fp' ∧ wpS X.K cl E kp (whN t body m ρ') F' H' fp' σ' D, ⟨n, F, fp, ρ, sr, qn⟩, ?_⟩
    rintro m σ' H' ⟨F', fp', ρ', sr', q'⟩
    cases m with
    | zero => exact q'.elim
    | succ m =>
      refine wp_S sr' q' fun k k' ρ1 F1 H1 fp1 st1 sr1 rk q1 => ?_
      subst rk
      cases k with
      | false => exact iteF (q1 σ' F1 H1 fp1 Stp.refl sr1 Kept.refl)
      | true =>
        refine iteT ⟨fun σ2 H2 => ∃ F2 fp2 ρ2, SR X.K cl F2 H2 σ2 ρ2 fp2 ∧ wpS X.K cl E kp (whN t body m ρ2) F2 H2 fp2 σ2 D, fun σ2 H2 ⟨F2, fp2, ρ2, s2, q2⟩ => ⟨m, Nat.lt_succ_self _, F2, fp2, ρ2, s2, q2⟩, F1, fp1, ρ1, sr1, ?_⟩
        have q1 : wpS X.K cl E kp (match body ρ1 with
          | .nx r' => whN t body m r'
          | .ct r' => whN t body m r'
          | .bk r' => .nx r'
          | x => x) F1 H1 fp1 σ' D := q1
        cases e2 : body ρ1 with
        | nx r =>
          rw [e2] at q1
          exact fun σ5 F5 H5 fp5 st5 sr5 k5 => ⟨F5, fp5, r, sr5, wpS.trans st5 k5 q1⟩
        | ct r =>
          rw [e2] at q1
          exact fun σ5 F5 H5 fp5 st5 sr5 k5 => ⟨F5, fp5, r, sr5, wpS.trans st5 k5 q1⟩
        | bk r => rw [e2] at q1; exact q1
        | rt o r => rw [e2] at q1; exact q1
        | ex c d r => rw [e2] at q1; exact q1
        | no => rw [e2] at q1; exact q1
  unfold sWh at q
  split at q
  · exact fin _ q
  · exact q.elim
theorem whN_mono {t : Env → Res Bool} {body : Env → SRes} : ∀ (n m : Nat) (ρ : Env), whN t body n ρ ≠ .no → n ≤ m → whN t body m ρ = whN t body n ρ
  | 0, _, _, h, _ => absurd rfl h
  | n + 1, 0, _, _, h => absurd h (by omega)
  | n + 1, m + 1, ρ, h, hm => by
    unfold whN at h ⊢
    cases e : t ρ with
    | ex c d r => rfl
    | no => rfl
    | ok k r =>
      rw [e] at h
      cases k with
      | false => rfl
      | true =>
        simp only [sB_ok, if_true] at h ⊢
        cases e2 : body r with
        | nx r' => rw [e2] at h; exact whN_mono n m r' h (by omega)
        | ct r' => rw [e2] at h; exact whN_mono n m r' h (by omega)
        | _ => rfl
theorem sWh_eq {t : Env → Res Bool} {body : Env → SRes} {n : Nat} {ρ : Env} (h : whN t body n ρ ≠ .no) : sWh t body ρ = whN t body n ρ := by
  unfold sWh
  have hx : ∃ n, whN t body n ρ ≠ .no := ⟨n, h⟩
  rw [dif_pos hx]
  have hc := Classical.choose_spec hx
  rcases Nat.le_total (Classical.choose hx) n with l | l
  · exact (whN_mono _ _ ρ hc l).symm
  · exact whN_mono _ _ ρ h l
end
end Tk

set_option Elab.async false
set_option linter.all false
set_option maxRecDepth 100000
set_option maxHeartbeats 4000000
namespace Tk
open PySem PySem.Spec PyProof.Rows L2

section
variable {K : PySem.W.Frag} {cl : Nat → Addr} {E : XK} {F F' F1 H H' H1 : Hp} {fp fp' fp1 : List Addr} {σ σ' : L2.St} {ρ r : Env}
/-! ## what stands aside while others run -/
theorem Stp.nf (s : Stp F H fp F' H' fp') {a : Addr} (h : F a = none) {u : HO} (hu : H a = some u) (m : a ∉ fp) : F' a = none := by
  cases q : F' a with
  | none => rfl
  | some o =>
    rcases s.nw a (by rw [q]; exact fun z => by cases z) with z | z | z
    · exact absurd h z
    · rw [hu] at z; cases z
    · exact absurd z m
theorem Stp.own (s : Stp F H fp F' H' fp') {v : V} {o : O} {fv : List Addr} (ro : ROwn K cl F H v o fv) (d : ∀ a ∈ fv, a ∉ fp) : ROwn K cl F' H' v o fv :=
  ROwn.mono s.le o (fun a ha u h => s.fr a u h (d a ha)) (fun a ha h => s.nf h (ROwn.there o ro a ha).2.choose_spec (d a ha)) ro
theorem Stp.owns (s : Stp F H fp F' H' fp') {v : List V} {o : List O} {fv : List Addr} (ro : ROwns K cl F H v o fv) (d : ∀ a ∈ fv, a ∉ fp) : ROwns K cl F' H' v o fv :=
  ROwns.mono s.le o (fun a ha u h => s.fr a u h (d a ha)) (fun a ha h => s.nf h (ROwns.there o ro a ha).2.choose_spec (d a ha)) ro
theorem Stp.env (s : Stp F H fp F' H' fp') {fv : List Addr} (re : REnv K cl F H σ ρ fv) (d : ∀ a ∈ fv, a ∉ fp) : REnv K cl F' H' σ ρ fv :=
  REnv.mono s.le (fun a ha u h => s.fr a u h (d a ha)) (fun a ha h => s.nf h (REnv.there re a ha).2.choose_spec (d a ha)) re
/-- a new footprint is apart from what stood aside -/
theorem Stp.apart (s : Stp F H fp F' H' fp') {fv : List Addr} (th : ∀ a ∈ fv, ∃ u, H a = some u) (d : ∀ a ∈ fv, a ∉ fp) : ∀ a ∈ fv, a ∉ fp' := fun a ha hb => by
  rcases s.mem a hb with z | z
  · exact d a ha z
  · obtain ⟨u, hu⟩ := th a ha
    rw [hu] at z
    cases z
/-- more stands in the footprint -/
theorem Stp.more (s : Stp F H fp F' H' fp') (fv : List Addr) : Stp F H (fv ++ fp) F' H' (fv ++ fp') :=
  ⟨s.le, fun a o h m => s.fr a o h fun z => m (List.mem_append_right _ z), fun a h => (List.mem_append.mp h).elim (fun z => .inl (List.mem_append_left _ z)) fun z => (s.mem a z).elim (fun y => .inl (List.mem_append_right _ y)) .inr,
    fun a h => (s.nw a h).elim .inl fun z => .inr (z.elim .inl fun y => .inr (List.mem_append_right _ y))⟩

/-! ## the slots of a comprehension -/
def wipeE (ρ : Env) : List Nat → Env
  | [] => ρ
  | v :: vs => (wipeE ρ vs).set v none
def slot (ρ : Env) (i : Nat) : Option O := match ρ[i]? with
  | some x => x
  | none => none
def restE (r0 : Env) : List Nat → Env → Env
  | [], r => r
  | v :: vs, r => restE r0 vs (r.set v (slot r0 v))
def okSlot : Option O → Bool
  | none => true
  | some (.sh _) => true
  | _ => false
theorem REnv.wipe1 : ∀ {σ : L2.St} {ρ : Env} {fp : List Addr} (i : Nat), REnv K cl F H σ ρ fp → fp.Nodup → ∃ fp', REnv K cl F H (σ.set i none) (ρ.set i none) fp' ∧ fp'.Nodup ∧ ∀ a ∈ fp', a ∈ fp
  | _, _, _, _, .nil, n => ⟨[], .nil, n, fun _ h => h⟩
  | _, _, _, 0, .skip r, n => ⟨_, .skip r, n, fun _ h => h⟩
  | _, _, _, 0, .cons a r, n => ⟨_, .skip r, (List.nodup_append.mp n).2.1, fun _ h => List.mem_append_right _ h⟩
  | _, _, _, i + 1, .skip r, n => by
    obtain ⟨fp', r', n', m⟩ := REnv.wipe1 i r n
    exact ⟨fp', .skip r', n', m⟩
  | _, _, _, i + 1, .cons (fp := f1) (fq := f2) a r, n => by
    have nn := List.nodup_append.mp n
    obtain ⟨fp', r', n', m⟩ := REnv.wipe1 i r nn.2.1
    exact ⟨f1 ++ fp', .cons a r', List.nodup_append.mpr ⟨nn.1, n', fun x hx y hy e => nn.2.2 x hx y (m y hy) e⟩, fun x hx => (List.mem_append.mp hx).elim (fun z => List.mem_append_left _ z) fun z => List.mem_append_right _ (m x z)⟩
theorem REnv.wipeA : ∀ (vs : List Nat) {σ : L2.St} {ρ : Env} {fp : List Addr}, REnv K cl F H σ ρ fp → fp.Nodup → ∃ fp', REnv K cl F H (wipe σ vs) (wipeE ρ vs) fp' ∧ fp'.Nodup ∧ ∀ a ∈ fp', a ∈ fp
  | [], _, _, fp, r, n => ⟨fp, r, n, fun _ h => h⟩
  | v :: vs, _, _, _, r, n => by
    obtain ⟨fp1, r1, n1, m1⟩ := REnv.wipeA vs r n
    obtain ⟨fp2, r2, n2, m2⟩ := REnv.wipe1 v r1 n1
    exact ⟨fp2, r2, n2, fun a ha => m1 a (m2 a ha)⟩
theorem REnv.fill {x : Option O} : ∀ {σ : L2.St} {σ1 : L2.St} {r : Env} {fp : List Addr} (i : Nat), REnv K cl F H σ1 r fp → σ1 = σ.set i none →
    (x = none ∨ ∃ d v, x = some (.sh d) ∧ σ[i]? = some (some v) ∧ Rep K cl F v d) → REnv K cl F H σ (r.set i x) fp
  | [], _, _, _, i, h, e, _ => by
    have e' : _ = ([] : L2.St) := e
    subst e'
    cases h
    exact .nil
  | s :: τ, _, _, _, 0, h, e, hx => by
    have e' : _ = (none :: τ : L2.St) := e
    subst e'
    cases h with
    | skip r =>
      rcases hx with rfl | ⟨d, v, rfl, hv, rv⟩
      · exact .skip r
      · have : s = some v := by simpa using hv
        subst this
        exact .cons (fp := []) (.sh rv) r
  | s :: τ, _, _, _, i + 1, h, e, hx => by
    have e' : _ = (s :: τ.set i none : L2.St) := e
    subst e'
    have hx' : x = none ∨ ∃ d v, x = some (.sh d) ∧ τ[i]? = some (some v) ∧ Rep K cl F v d := by
      rcases hx with h | ⟨d, v, e, hv, rv⟩
      · exact .inl h
      · exact .inr ⟨d, v, e, by simpa using hv, rv⟩
    cases h with
    | skip r => exact .skip (REnv.fill i r rfl hx')
    | cons a r => exact .cons a (REnv.fill i r rfl hx')
theorem REnv.rest {r0 : Env} : ∀ (vs : List Nat) {r : Env} {fp : List Addr}, vs.Nodup → (∀ v ∈ vs, slot r0 v = none ∨ ∃ d u, slot r0 v = some (.sh d) ∧ σ[v]? = some (some u) ∧ Rep K cl F u d) →
    REnv K cl F H (wipe σ vs) r fp → REnv K cl F H σ (restE r0 vs r) fp
  | [], _, _, _, _, h => h
  | v :: vs, r, fp, n, hs, h => by
    have nn := List.nodup_cons.mp n
    refine REnv.rest vs nn.2 (fun u hu => hs u (List.mem_cons_of_mem _ hu)) (REnv.fill (σ := wipe σ vs) v h rfl ?_)
    rcases hs v List.mem_cons_self with e | ⟨d, u, e, hv, rv⟩
    · exact .inl e
    · exact .inr ⟨d, u, e, by rw [wipe_out nn.1]; exact hv, rv⟩
theorem slot_ok {fp : List Addr} (re : REnv K cl F H σ ρ fp) {v : Nat} (h : okSlot (slot ρ v) = true) : slot ρ v = none ∨ ∃ d u, slot ρ v = some (.sh d) ∧ σ[v]? = some (some u) ∧ Rep K cl F u d := by
  unfold slot at h ⊢
  cases e : ρ[v]? with
  | none => exact .inl rfl
  | some x =>
    rw [e] at h
    cases x with
    | none => exact .inl rfl
    | some o =>
      cases o with
      | sh d =>
        obtain ⟨u, fq, hu, ro, _⟩ := re.get e
        cases ro with
        | sh r => exact .inr ⟨d, u, rfl, hu, r⟩
      | lst os => cases h
      | ins c fs => cases h

theorem wipe_in {τ : L2.St} {j : Nat} : ∀ {vs : List Nat}, j ∈ vs → (wipe τ vs)[j]? = if j < τ.length then some none else none
  | [], hj => nomatch hj
  | v :: vs, hj => by
    show ((wipe τ vs).set v none)[j]? = _
    by_cases hjv : v = j
    · subst hjv
      by_cases hlt : v < τ.length
      · rw [List.getElem?_set_self (by rw [wipe_length]; exact hlt), if_pos hlt]
      · rw [List.getElem?_eq_none (by rw [List.length_set, wipe_length]; omega), if_neg hlt]
    · rw [List.getElem?_set_ne hjv]
      exact wipe_in ((List.mem_cons.mp hj).resolve_left fun z => hjv z.symm)
theorem wipe_off {vs : List Nat} {σ σ' : L2.St} (o : Off vs (wipe σ vs) σ') : wipe σ' vs = wipe σ vs := by
  refine List.ext_getElem? fun j => ?_
  by_cases hj : j ∈ vs
  · rw [wipe_in hj, wipe_in hj, o.1, wipe_length]
  · rw [wipe_out hj, o.2 j hj]

/-! ## comprehensions -/
def compL (b : D → Env → Option Env) (t : Env → Res Bool) (el : Env → Res O) (vs : List Nat) : List D → Env → Res (List O)
  | [], ρ => .ok [] ρ
  | d :: ds, ρ => match b d ρ with
    | none => .no
    | some ρ1 => (t ρ1).bind fun k r => if k = true then (el r).bind fun o r2 => (compL b t el vs ds (wipeE r2 vs)).map (o :: ·) else compL b t el vs ds (wipeE r vs)
def compE (b : D → Env → Option Env) (t : Env → Res Bool) (el : Env → Res O) (vs : List Nat) (ds : List D) (r0 : Env) : Res O :=
  if (vs.all fun v => okSlot (slot r0 v)) = true then (match compL b t el vs ds (wipeE r0 vs) with
    | .ok os r => .ok (.lst os) (restE r0 vs r)
    | _ => .no) else .no
def eComp (fi : Env → Res (List D)) (b : D → Env → Option Env) (t : Env → Res Bool) (el : Env → Res O) (vs : List Nat) : Env → Res O := fun ρ => (fi ρ).bind fun ds r0 => compE b t el vs ds r0
theorem map_ok_inv {α β : Type} {x : Res α} {g : α → β} {c : β} {r : Env} (h : x.map g = .ok c r) : ∃ a, x = .ok a r ∧ g a = c := by
  cases x with
  | ok a r' => cases h; exact ⟨a, rfl, rfl⟩
  | ex c d r' => cases h
  | no => cases h
theorem bind_ok_inv {α β : Type} {x : Res α} {k : α → Env → Res β} {c : β} {r : Env} (h : x.bind k = .ok c r) : ∃ a r1, x = .ok a r1 ∧ k a r1 = .ok c r := by
  cases x with
  | ok a r' => exact ⟨a, r', rfl, h⟩
  | ex c d r' => cases h
  | no => cases h
theorem wpV_ok {β α : Type} {rel : Rel β α} {f : Env → Res α} {a : α} (e : f ρ = .ok a r) {Q : β → Hp → Prop} (sr : SR K cl F H σ ρ fp)
    (n : ∀ b F' H' fp', Stp F H fp F' H' fp' → SR K cl F' H' σ r fp' → rel σ F' b a → Q b H') : tM K cl E rel f σ H Q := ⟨F, fp, ρ, sr, by rw [e]; exact n⟩
theorem wpO_ok {f : Env → Res O} {o : O} (e : f ρ = .ok o r) {Q : VK} (sr : SR K cl F H σ ρ fp)
    (n : ∀ v F' H' fv fp', Stp F H fp F' H' (fv ++ fp') → Same F' H' → REnv K cl F' H' σ r fp' → ROwn K cl F' H' v o fv → (fv ++ fp').Nodup → Q v H') : tO K cl E f σ H Q := ⟨F, fp, ρ, sr, by rw [e]; exact n⟩
end
/-- the comprehension's list so far, at L -/
structure Acc (K : PySem.W.Frag) (cl : Nat → Addr) (F H : Hp) (L : Addr) (os : List O) (σ : L2.St) (ρ : Env) (vv : List V) (fv fp : List Addr) : Prop where
  le : Same F H
  env : REnv K cl F H σ ρ fp
  at_ : H L = some (.lst vv)
  nF : F L = none
  own : ROwns K cl F H vv os fv
  nd : (L :: (fv ++ fp)).Nodup
theorem Acc.sr {K : PySem.W.Frag} {cl : Nat → Addr} {F H : Hp} {L : Addr} {os : List O} {σ : L2.St} {ρ : Env} {vv : List V} {fv fp : List Addr} (a : Acc K cl F H L os σ ρ vv fv fp) : SR K cl F H σ ρ fp :=
  ⟨a.le, a.env, (List.nodup_append.mp (List.nodup_cons.mp a.nd).2).2.1⟩
theorem Acc.step {K : PySem.W.Frag} {cl : Nat → Addr} {F H F' H' : Hp} {L : Addr} {os : List O} {σ σ' : L2.St} {ρ ρ' : Env} {vv : List V} {fv fp fp' : List Addr} (a : Acc K cl F H L os σ ρ vv fv fp) (s : Stp F H fp F' H' fp') (sr : SR K cl F' H' σ' ρ' fp') :
    Acc K cl F' H' L os σ' ρ' vv fv fp' := by
  have n1 := List.nodup_cons.mp a.nd
  have n2 := List.nodup_append.mp n1.2
  have d1 : ∀ x ∈ fv, x ∉ fp := fun x hx hy => n2.2.2 x hx x hy rfl
  have d2 : L ∉ fp := fun h => n1.1 (List.mem_append_right _ h)
  have th : ∀ x ∈ fv, ∃ u, H x = some u := fun x hx => (ROwns.there os a.own x hx).2
  have e1 := s.apart th d1
  have e2 : L ∉ fp' := s.apart (fv := [L]) (fun x hx => by rw [List.mem_singleton.mp hx]; exact ⟨_, a.at_⟩) (fun x hx => by rw [List.mem_singleton.mp hx]; exact d2) L (List.mem_singleton.mpr rfl)
  exact ⟨sr.le, sr.env, s.fr _ _ a.at_ d2, s.nf a.nF a.at_ d2, s.owns a.own d1, List.nodup_cons.mpr ⟨fun h => (List.mem_append.mp h).elim (fun z => n1.1 (List.mem_append_left _ z)) e2, List.nodup_append.mpr ⟨n2.1, sr.nd, fun x hx y hy e => e1 x hx (e ▸ hy)⟩⟩⟩
section
variable {X : Cx} {cl : Nat → Addr} {E : XK} {kp : List Nat} {a b c e : Expr} {pos : Pos}
theorem comp_read {fi : Env → Res (List D)} {bd : D → Env → Option Env} {t : Env → Res Bool} {el : Env → Res O} {vs : List Nat} {σ : L2.St} {H : Hp} {Q : VK} (hv : vs.Nodup)
    (h : tO X.K cl E (eComp fi bd t el vs) σ H Q) : tLc (tI X.K cl E fi) (tG X.K cl vs bd) (tT X.K cl E0 t) (tO X.K cl E0 el) vs σ H Q := by
  obtain ⟨F, fp, ρ, sr, q⟩ := h
  refine wp_bindO sr q fun J ds r0 F1 H1 fp1 st1 sr1 ⟨iw, hz⟩ q1 => ?_
  intro L hL
  unfold compE at q1
  by_cases hok : (vs.all fun v => okSlot (slot r0 v)) = true
  case neg => rw [if_neg hok] at q1; exact q1.elim
  rw [if_pos hok] at q1
  cases hc : compL bd t el vs ds (wipeE r0 vs) with
  | ex c d r => rw [hc] at q1; exact q1.elim
  | no => rw [hc] at q1; exact q1.elim
  | ok OS R =>
    rw [hc] at q1
    obtain ⟨fw, rw', nw, mw⟩ := REnv.wipeA vs sr1.env sr1.nd
    have hF : F1 L = none := sr1.le.free hL
    have thw : L ∉ fw := fun h => by
      obtain ⟨u, hu⟩ := (sr1.env.there L (mw L h)).2
      rw [hL] at hu
      cases hu
    have g0 := Grow.newO (u := .lst []) sr1.le hL
    refine ⟨fun i m H' => m = ds.length - i ∧ i ≤ ds.length ∧ ∃ F' ρ' os vv fv fp' os2, Acc X.K cl F' H' L os (wipe σ vs) ρ' vv fv fp' ∧ Stp F1 H1 fp1 F' H' (L :: (fv ++ fp')) ∧ os.length ≤ i ∧
        compL bd t el vs (ds.drop i) ρ' = .ok os2 R ∧ os ++ os2 = OS,
      ⟨ds.length, rfl, Nat.zero_le _, F1, wipeE r0 vs, [], [], [], fw, OS, ⟨g0.fh, g0.env rw', upd_same, hF, .nil, List.nodup_cons.mpr ⟨thw, nw⟩⟩, ?_, Nat.le_refl _, hc, rfl⟩, ?_⟩
    · exact ⟨g0.le, fun a o h _ => g0.leH a o h, fun a ha => (List.mem_cons.mp ha).elim (fun e => .inr (e ▸ hL)) fun z => .inl (mw a z), fun a h => (g0.nw a h).elim .inl fun z => .inr (.inl z)⟩
    rintro i m H' ⟨rfl, hi, F', ρ', os, vv, fv, fp', os2, A, st, hl, hcl, hos⟩
    obtain ⟨turn, stop⟩ := iw F' H' st.le A.le
    by_cases hlt : i < ds.length
    · have ed : ds.drop i = ds[i] :: ds.drop (i + 1) := List.drop_eq_getElem_cons hlt
      obtain ⟨go, yl⟩ := turn i ds[i] (List.getElem?_eq_getElem hlt)
      refine .inr ⟨go, fun H2 => ∃ F' ρ' os vv fv fp' os2, Acc X.K cl F' H2 L os (wipe σ vs) ρ' vv fv fp' ∧ Stp F1 H1 fp1 F' H2 (L :: (fv ++ fp')) ∧ os.length ≤ i + 1 ∧
        compL bd t el vs (ds.drop (i + 1)) ρ' = .ok os2 R ∧ os ++ os2 = OS, fun H2 h => ⟨ds.length - (i + 1), by omega, rfl, hlt, h⟩, fun x H3 y => ?_⟩
      obtain ⟨F3, g, rx⟩ := yl x H3 y
      rw [ed] at hcl
      unfold compL at hcl
      cases e1 : bd ds[i] ρ' with
      | none => rw [e1] at hcl; cases hcl
      | some ρ4 =>
        rw [e1] at hcl
        obtain ⟨k, r5, e2, hcl⟩ := bind_ok_inv hcl
        have A3 := A.step (g.stp (fp := fp')) (A.sr.grow g)
        have st3 : Stp F1 H1 fp1 F3 H3 (L :: (fv ++ fp')) := st.trans (g.stp (fp := L :: (fv ++ fp')))
        refine ⟨F3, fp', ρ', ds[i], A3.sr, rx, ρ4, e1, fun σ4 fp4 sr4 m4 o4 => ⟨?_, ?_⟩⟩
        · exact wipe_off o4
        have A4 := A3.step (Stp.sub m4) sr4
        refine wpV_ok e2 sr4 fun k' F5 H5 fp5 st5 sr5 ek => ?_
        subst ek
        have A5 := A4.step st5 sr5
        have st5' : Stp F1 H1 fp1 F5 H5 (L :: (fv ++ fp5)) := by
          refine st3.trans ?_
          have := ((Stp.sub (F := F3) (H := H3) m4).trans st5).more (L :: fv)
          simpa using this
        have wp5 : wipe σ4 vs = wipe σ vs := wipe_off o4
        cases k' with
        | false =>
          refine iteF ?_
          obtain ⟨fw2, rw2, nw2, mw2⟩ := REnv.wipeA vs sr5.env sr5.nd
          rw [wp5] at rw2
          exact ⟨F5, wipeE r5 vs, os, vv, fv, fw2, os2, A5.step (Stp.sub mw2) ⟨sr5.le, rw2, nw2⟩, st5'.weaken (fun z hz => by
            rcases List.mem_cons.mp hz with e | hz
            · exact e ▸ List.mem_cons_self
            · exact List.mem_cons_of_mem _ ((List.mem_append.mp hz).elim (fun y => List.mem_append_left _ y) fun y => List.mem_append_right _ (mw2 z y))), Nat.le_succ_of_le hl, hcl, hos⟩
        | true =>
          refine iteT ?_
          have hcl : ((el r5).bind fun o r2 => (compL bd t el vs (ds.drop (i + 1)) (wipeE r2 vs)).map (o :: ·)) = .ok os2 R := hcl
          obtain ⟨o, r6, e3, hcl⟩ := bind_ok_inv hcl
          obtain ⟨os3, hcl, hcons⟩ := map_ok_inv hcl
          refine wpO_ok e3 sr5 fun v F6 H6 fu fp6 st6 sm6 re6 ro6 nd6 => ?_
          have n1 := List.nodup_cons.mp A5.nd
          have n2 := List.nodup_append.mp n1.2
          have d1 : ∀ x ∈ fv, x ∉ fp5 := fun x hx hy => n2.2.2 x hx x hy rfl
          have d2 : L ∉ fp5 := fun h => n1.1 (List.mem_append_right _ h)
          have aL := st6.fr _ _ A5.at_ d2
          have nL := st6.nf A5.nF A5.at_ d2
          have ow := st6.owns A5.own d1
          have e1' := st6.apart (fun x hx => (ROwns.there os A5.own x hx).2) d1
          have e2' : L ∉ fu ++ fp6 := st6.apart (fv := [L]) (fun x hx => by rw [List.mem_singleton.mp hx]; exact ⟨_, A5.at_⟩) (fun x hx => by rw [List.mem_singleton.mp hx]; exact d2) L (List.mem_singleton.mpr rfl)
          have hvl := ROwns.length ow
          refine ⟨vv, aL, by rw [hvl]; exact Nat.lt_of_lt_of_le (Nat.lt_of_le_of_lt hl hlt) hz, ?_⟩
          -- the new heap
          have un : ∀ x, x ≠ L → upd H6 L (.lst (vv ++ [v])) x = H6 x := fun x hx => upd_ne hx
          have sm7 : Same F6 (upd H6 L (.lst (vv ++ [v]))) := fun x u hx => by
            rw [un x fun z => by subst z; rw [nL] at hx; cases hx]
            exact sm6 x u hx
          have nfv : L ∉ fv := fun h => n1.1 (List.mem_append_left _ h)
          have k1 : ROwns X.K cl F6 (upd H6 L (.lst (vv ++ [v]))) vv os fv := ROwns.mono (Same.refl _) os (fun x hx u h => by rw [un x fun z => nfv (z ▸ hx)]; exact h) (fun _ _ h => h) ow
          have k2 : ROwn X.K cl F6 (upd H6 L (.lst (vv ++ [v]))) v o fu := ROwn.mono (Same.refl _) o (fun x hx u h => by rw [un x fun z => e2' (List.mem_append_left _ (z ▸ hx))]; exact h) (fun _ _ h => h) ro6
          have k3 : REnv X.K cl F6 (upd H6 L (.lst (vv ++ [v]))) σ4 r6 fp6 := REnv.mono (Same.refl _) (fun x hx u h => by rw [un x fun z => e2' (List.mem_append_right _ (z ▸ hx))]; exact h) (fun _ _ h => h) re6
          have nn6 := List.nodup_append.mp nd6
          obtain ⟨fw2, rw2, nw2, mw2⟩ := REnv.wipeA vs k3 nn6.2.1
          rw [wp5] at rw2
          refine ⟨F6, wipeE r6 vs, os ++ [o], vv ++ [v], fv ++ fu, fw2, os3, ⟨sm7, rw2, upd_same, nL, ?_, ?_⟩, ?_, by rw [List.length_append]; exact Nat.succ_le_succ hl, hcl, by rw [List.append_assoc, ← hos, ← hcons]; rfl⟩
          · have := k1.append (ROwns.cons k2 .nil)
            simpa using this
          · refine List.nodup_cons.mpr ⟨fun h => ?_, List.nodup_append.mpr ⟨List.nodup_append.mpr ⟨n2.1, nn6.1, fun x hx y hy e => e1' x hx (List.mem_append_left _ (e ▸ hy))⟩, nw2, fun x hx y hy e => ?_⟩⟩
            · rcases List.mem_append.mp h with h | h
              · rcases List.mem_append.mp h with h | h
                · exact nfv h
                · exact e2' (List.mem_append_left _ h)
              · exact e2' (List.mem_append_right _ (mw2 _ h))
            · subst e
              rcases List.mem_append.mp hx with hx | hx
              · exact e1' x hx (List.mem_append_right _ (mw2 _ hy))
              · exact nn6.2.2 x hx x (mw2 _ hy) rfl
          · have s6 : Stp F1 H1 fp1 F6 H6 (L :: fv ++ (fu ++ fp6)) := by
              refine st5'.trans ?_
              have := st6.more (L :: fv)
              simpa using this
            refine ⟨s6.le, fun x u h m => ?_, fun x hx => ?_, s6.nw⟩
            · rw [un x fun z => by
                subst z
                rcases s6.mem x (by simp) with y | y
                · exact m y
                · rw [h] at y; cases y]
              exact s6.fr x u h m
            · refine s6.mem x ?_
              rcases List.mem_cons.mp hx with e | hx
              · rw [e]; simp
              · rcases List.mem_append.mp hx with hx | hx
                · rcases List.mem_append.mp hx with hx | hx
                  · simp [hx]
                  · simp [hx]
                · simp [mw2 x hx]
    · have e : i = ds.length := by omega
      subst e
      rw [List.drop_length] at hcl
      have hcl : Res.ok [] ρ' = .ok os2 R := hcl
      injection hcl with hc1 hc2
      subst hc1 hc2
      rw [List.append_nil] at hos
      subst hos
      refine .inl ⟨stop, q1 (.ref L) F' H' (L :: fv) fp' (by simpa using st) A.le ?_ (.lst A.at_ A.nF A.own) (by simpa using A.nd)⟩
      refine REnv.rest vs hv (fun v hvm => ?_) A.env
      have := slot_ok sr1.env (v := v) (by simpa using (List.all_eq_true.mp hok) v hvm)
      rcases this with h | ⟨d, u, e, hu, ru⟩
      · exact .inl h
      · exact .inr ⟨d, u, e, hu, ru.mono st.le d⟩
theorem m_comp {elt tg iter : Expr} {ifs : List Expr} {scope : Scope} {own : List (Str × Nat)} {fi : Env → Res (List D)} {bd : D → Env → Option Env} {t : Env → Res Bool} {el : Env → Res O} (hc : X.calm = true) (hN : X.N.Nodup) (hi : PI X tg iter (tI X.K cl E fi)) (ok : BlkOk X.N X.env.scope scope own)
    (hg : ∀ (s : Shared) (H : Hp) (C : Addr) (ce : List (Str × Addr)) (fp : List Addr), PG (X.blk s H scope (compEnvC scope ce C X.env) fp) tg (tG X.K cl (own.map (·.2)) bd)) (ht : ∀ (s : Shared) (H : Hp) (C : Addr) (ce : List (Str × Addr)) (fp : List Addr), PTs (X.blk s H scope (compEnvC scope ce C X.env) fp) ifs (tT X.K cl E0 t))
    (he : ∀ (s : Shared) (H : Hp) (C : Addr) (ce : List (Str × Addr)) (fp : List Addr), PE (X.blk s H scope (compEnvC scope ce C X.env) fp) elt (tO X.K cl E0 el)) (hv : (own.map (·.2)).Nodup := by decide) (hs : ∀ x, foldedSetIterable iter X.env x = pure x := by intro _; rfl) :
    PE X (.ListComp elt [⟨tg, iter, ifs, 0⟩] scope pos) (tO X.K cl E (eComp fi bd t el (own.map (·.2)))) :=
  PE.imp (pe_lc hc hN hi ok hg ht he hs) fun _ _ _ q => comp_read hv q
theorem s_setLc {i : Nat} {y : Str} {py spos : Pos} {elt tg iter : Expr} {ifs : List Expr} {scope : Scope} {own : List (Str × Nat)} {fi : Env → Res (List D)} {bd : D → Env → Option Env} {t : Env → Res Bool} {el : Env → Res O} (hc : X.calm = true) (hN : X.N.Nodup) (hy : X.N[i]? = some y) (hyl : X.env.scope.names.lookup y = some .local)
    (hsw : swapsWith (.ListComp elt [⟨tg, iter, ifs, 0⟩] scope pos) (some (.Name y py)) spos.line X.env = pure true) (hi : PI X tg iter (tI X.K cl E fi)) (ok : BlkOk X.N X.env.scope scope own)
    (hg : ∀ (s : Shared) (H : Hp) (C : Addr) (ce : List (Str × Addr)) (fp : List Addr), PG (X.blk s H scope (compEnvC scope ce C X.env) fp) tg (tG X.K cl (own.map (·.2)) bd)) (ht : ∀ (s : Shared) (H : Hp) (C : Addr) (ce : List (Str × Addr)) (fp : List Addr), PTs (X.blk s H scope (compEnvC scope ce C X.env) fp) ifs (tT X.K cl E0 t))
    (he : ∀ (s : Shared) (H : Hp) (C : Addr) (ce : List (Str × Addr)) (fp : List Addr), PE (X.blk s H scope (compEnvC scope ce C X.env) fp) elt (tO X.K cl E0 el)) (hk : i ∉ kp := by decide) (hv : (own.map (·.2)).Nodup := by decide) (hs : ∀ x, foldedSetIterable iter X.env x = pure x := by intro _; rfl) :
    PS X (.Assign [.Name y py] (.ListComp elt [⟨tg, iter, ifs, 0⟩] scope pos) spos) (tS X.K cl E kp (sSet i (eComp fi bd t el (own.map (·.2))))) :=
  s_set_of (ps_setLc hc hN hy hyl hsw hi ok hg ht he hs) hk fun _ _ _ q => comp_read hv q
/-! tests of a comprehension -/
theorem PTs.imp {ifs : List Expr} {t t' : TT} (h : PTs X ifs t) (i : ∀ σ H Q, t' σ H Q → t σ H Q) : PTs X ifs t' := ⟨fun pins s σ H Q I q => h.run pins s σ H Q I (i σ H Q q)⟩
def tTrue : Env → Res Bool := fun ρ => .ok true ρ
theorem ts_nil : PTs X [] (tT X.K cl E tTrue) := PTs.imp pts_nil fun σ H Q ⟨F, fp, ρ, sr, q⟩ => q true F H fp Stp.refl sr rfl
theorem ts_one {t : Env → Res Bool} (h : PT X c (tT X.K cl E t)) : PTs X [c] (tT X.K cl E t) := pts_one h
end
end Tk

set_option Elab.async false
set_option linter.all false
set_option maxRecDepth 100000
set_option maxHeartbeats 4000000
namespace Tk
open PySem PySem.Spec PyProof.Rows L2

inductive FRes where
  | ok (o : O) (os : List O) | ex (c : Nat) (d : List (Str × D)) (os : List O) | no
section
variable (K : PySem.W.Frag) (cl : Nat → Addr)
def wpF (E : XK) (r : FRes) (F H : Hp) (fp : List Addr) (vs : List V) (Q : VK) : Prop := match r with
  | .ok o os => ∀ v F' H' fv fa, Stp F H fp F' H' (fv ++ fa) → Same F' H' → ROwns K cl F' H' vs os fa → ROwn K cl F' H' v o fv → (fv ++ fa).Nodup → Q v H'
  | .ex c fs os => ∀ F' H' fa us dd, Stp F H fp F' H' fa → Same F' H' → ROwns K cl F' H' vs os fa → fa.Nodup → Fds K cl F' us fs → H' dd = some (.xd us) → E (.ref (cl c)) (some dd) H'
  | .no => False
/-- a def's promise by data -/
def spF (n : Nat) (Φ : List O → FRes) : Sp := fun vs H Q E => ∃ F os fp, os.length = n ∧ Same F H ∧ ROwns K cl F H vs os fp ∧ fp.Nodup ∧ wpF K cl E (Φ os) F H fp vs Q
end
section
variable {K : PySem.W.Frag} {cl : Nat → Addr} {E : XK} {F F' F1 H H' H1 : Hp} {fp fp' fp1 : List Addr} {σ σ' : L2.St} {ρ r : Env}
theorem spF_len {n : Nat} {Φ : List O → FRes} {vs : List V} {Q : VK} (h : spF K cl n Φ vs H Q E) : vs.length = n := by
  obtain ⟨F, os, fp, hn, _, ro, _⟩ := h
  rw [ro.length, hn]
theorem Stp.base {fq : List Addr} (s : Stp F H fp F' H' fp') (h : ∀ a ∈ fp, a ∈ fq) : Stp F H fq F' H' fp' :=
  ⟨s.le, fun a o e m => s.fr a o e fun z => m (h a z), fun a ha => (s.mem a ha).elim (fun z => .inl (h a z)) .inr, fun a ha => (s.nw a ha).elim .inl fun z => .inr (z.elim .inl fun y => .inr (h a y))⟩

/-! ## a def's body -/
def initE (os : List O) (m : Nat) : Env := os.map some ++ List.replicate (m - os.length) none
theorem REnv.nones : ∀ n : Nat, REnv K cl F H (List.replicate n none) (List.replicate n none) []
  | 0 => .nil
  | n + 1 => .skip (REnv.nones n)
theorem REnv.start : ∀ {vs : List V} {os : List O} {fp : List Addr} (n : Nat), ROwns K cl F H vs os fp → REnv K cl F H (vs.map some ++ List.replicate n none) (os.map some ++ List.replicate n none) fp
  | _, _, _, n, .nil => REnv.nones n
  | _, _, _, n, .cons a b => .cons a (REnv.start n b)
def outs (kp : List Nat) : Env → Nat → List O → Option (List O)
  | _, _, [] => some []
  | ρ, i, o :: os => if i ∈ kp then (slot ρ i).bind fun o' => (outs kp (ρ.set i none) (i + 1) os).map (o' :: ·) else match o with
    | .sh d => (outs kp ρ (i + 1) os).map (.sh d :: ·)
    | _ => none
theorem slot_get {i : Nat} {o : O} (h : slot ρ i = some o) : ρ[i]? = some (some o) := by
  unfold slot at h
  cases e : ρ[i]? with
  | none => rw [e] at h; cases h
  | some x => rw [e] at h; rw [show x = some o from h]
theorem outs_ok {kp : List Nat} : ∀ (os : List O) (i : Nat) {vs : List V} {ρ : Env} {fp : List Addr} {os' : List O}, REnv K cl F H σ ρ fp → fp.Nodup → (∀ j v, vs[j]? = some v → i + j ∈ kp → σ[i + j]? = some (some v)) →
    vs.length = os.length → (∀ j v d, vs[j]? = some v → os[j]? = some (.sh d) → i + j ∉ kp → Rep K cl F v d) → outs kp ρ i os = some os' → ∃ fa, ROwns K cl F H vs os' fa ∧ fa.Nodup ∧ ∀ a ∈ fa, a ∈ fp
  | [], i, vs, ρ, fp, os', re, n, hk, hl, hs, h => by
    cases vs with
    | nil => cases h; exact ⟨[], .nil, .nil, fun _ h => nomatch h⟩
    | cons v vs => cases hl
  | o :: os, i, vs, ρ, fp, os', re, n, hk, hl, hs, h => by
    cases vs with
    | nil => cases hl
    | cons v vs =>
      unfold outs at h
      by_cases hi : i ∈ kp
      · rw [if_pos hi] at h
        cases e : slot ρ i with
        | none => rw [e] at h; cases h
        | some o' =>
          rw [e] at h
          have h : (outs kp (ρ.set i none) (i + 1) os).map (o' :: ·) = some os' := h
          cases e2 : outs kp (ρ.set i none) (i + 1) os with
          | none => rw [e2] at h; cases h
          | some os2 =>
            rw [e2] at h
            cases h
            obtain ⟨v', fo, fr, hv, ro, n1, dj, m, n2, re2⟩ := re.hole n (slot_get e)
            have hv0 := hk 0 v rfl (by simpa using hi)
            rw [Nat.add_zero, hv] at hv0
            cases hv0
            obtain ⟨fa, ra, na, ma⟩ := outs_ok os (i + 1) re2 n2 (fun j u hu hj => by have := hk (j + 1) u hu (by rw [← Nat.add_assoc, Nat.add_right_comm]; exact hj); rw [← Nat.add_assoc, Nat.add_right_comm] at this; exact this)
              (by simpa using hl) (fun j u d hu hd hj => hs (j + 1) u d hu hd (by rw [← Nat.add_assoc, Nat.add_right_comm]; exact hj)) e2
            exact ⟨fo ++ fa, .cons ro ra, List.nodup_append.mpr ⟨n1, na, fun x hx y hy z => dj x hx (ma x (z ▸ hy))⟩, fun x hx => (m x).mpr ((List.mem_append.mp hx).elim .inl fun z => .inr (ma x z))⟩
      · rw [if_neg hi] at h
        cases o with
        | sh d =>
          have h : (outs kp ρ (i + 1) os).map (.sh d :: ·) = some os' := h
          cases e2 : outs kp ρ (i + 1) os with
          | none => rw [e2] at h; cases h
          | some os2 =>
            rw [e2] at h
            cases h
            obtain ⟨fa, ra, na, ma⟩ := outs_ok os (i + 1) re n (fun j u hu hj => by have := hk (j + 1) u hu (by rw [← Nat.add_assoc, Nat.add_right_comm]; exact hj); rw [← Nat.add_assoc, Nat.add_right_comm] at this; exact this)
              (by simpa using hl) (fun j u d hu hd hj => hs (j + 1) u d hu hd (by rw [← Nat.add_assoc, Nat.add_right_comm]; exact hj)) e2
            exact ⟨fa, .cons (fp := []) (.sh (hs 0 v d rfl rfl (by simpa using hi))) ra, na, ma⟩
        | lst xs => cases h
        | ins c fs => cases h
/-- what a body is worth; here nothing is raised -/
def mk0 (n m : Nat) (kp : List Nat) (body : Env → SRes) : List O → FRes := fun os => if os.length = n then (match body (initE os m) with
  | .nx r => match outs kp r 0 os with
    | some os' => .ok (.sh .non) os'
    | none => .no
  | .rt o r => match outs kp r 0 os with
    | some os' => .ok o os'
    | none => .no
  | _ => .no) else .no
/-- .. with what is raised -/
def mkX (n m : Nat) (kp : List Nat) (body : Env → SRes) : List O → FRes := fun os => if os.length = n then (match body (initE os m) with
  | .nx r => match outs kp r 0 os with
    | some os' => .ok (.sh .non) os'
    | none => .no
  | .rt o r => match outs kp r 0 os with
    | some os' => .ok o os'
    | none => .no
  | .ex c d r => match outs kp r 0 os with
    | some os' => .ex c d os'
    | none => .no
  | _ => .no) else .no
theorem mk0_len {n m : Nat} {kp : List Nat} {body : Env → SRes} (os : List O) (h : mk0 n m kp body os ≠ .no) : os.length = n := by
  unfold mk0 at h
  split at h
  · assumption
  · exact absurd rfl h
theorem mkX_len {n m : Nat} {kp : List Nat} {body : Env → SRes} (os : List O) (h : mkX n m kp body os ≠ .no) : os.length = n := by
  unfold mkX at h
  split at h
  · assumption
  · exact absurd rfl h
theorem sh_rep {vs : List V} {os : List O} {fp : List Addr} (ro : ROwns K cl F H vs os fp) (s : Same F F') {j : Nat} {v : V} {d : D} (hv : vs[j]? = some v) (hd : os[j]? = some (.sh d)) : Rep K cl F' v d := by
  obtain ⟨u, fq, hu, r, _⟩ := ro.get hd
  rw [hv] at hu
  cases hu
  cases r with
  | sh r => exact r.mono s
theorem start_at {vs : List V} {n j : Nat} {v : V} (h : vs[j]? = some v) : (vs.map some ++ List.replicate n none)[j]? = some (some v) := by
  have hj : j < vs.length := (List.getElem?_eq_some_iff.mp h).1
  rw [List.getElem?_append_left (by simpa using hj), List.getElem?_map, h]
  rfl
theorem body0 {kp : List Nat} {n m : Nat} {body : Env → SRes} {vs : List V} {Q : VK} (h : spF K cl n (mk0 n m kp body) vs H Q E) : tS K cl E0 kp body { nx := fun _ H' => Q .non H', rt := Q } (vs.map some ++ List.replicate (m - vs.length) none) H := by
  obtain ⟨F, os, fp, hn, sm, ro, nd, q⟩ := h
  have hl := ro.length
  refine ⟨F, fp, initE os m, ⟨sm, by unfold initE; rw [hl]; exact REnv.start _ ro, nd⟩, ?_⟩
  unfold mk0 at q
  rw [if_pos hn] at q
  cases e : body (initE os m) with
  | nx r =>
    rw [e] at q
    intro σ' F' H' fp' st sr k
    cases e2 : outs kp r 0 os with
    | none => simp only [e2] at q; exact q.elim
    | some os' =>
      simp only [e2] at q
      obtain ⟨fa, ra, na, ma⟩ := outs_ok os 0 (vs := vs) sr.env sr.nd (fun j v hv hj => by rw [Nat.zero_add] at hj ⊢; rw [k j hj]; exact start_at hv) hl (fun j v d hv hd _ => sh_rep ro st.le hv hd) e2
      exact q .non F' H' [] fa (st.weaken ma) sr.le ra (.sh .non) na
  | rt o r =>
    rw [e] at q
    intro v σ' F' H' fv fp' st sm' re rv nd' k
    have nn := List.nodup_append.mp nd'
    cases e2 : outs kp r 0 os with
    | none => simp only [e2] at q; exact q.elim
    | some os' =>
      simp only [e2] at q
      obtain ⟨fa, ra, na, ma⟩ := outs_ok os 0 (vs := vs) re nn.2.1 (fun j v hv hj => by rw [Nat.zero_add] at hj ⊢; rw [k j hj]; exact start_at hv) hl (fun j v d hv hd _ => sh_rep ro st.le hv hd) e2
      exact q v F' H' fv fa (st.weaken fun x hx => (List.mem_append.mp hx).elim (fun z => List.mem_append_left _ z) fun z => List.mem_append_right _ (ma x z)) sm' ra rv (List.nodup_append.mpr ⟨nn.1, na, fun x hx y hy e => nn.2.2 x hx y (ma y hy) e⟩)
  | _ => rw [e] at q; exact q.elim
theorem bodyX {kp : List Nat} {n m : Nat} {body : Env → SRes} {vs : List V} {Q : VK} (h : spF K cl n (mkX n m kp body) vs H Q E) : tS K cl E kp body { nx := fun _ H' => Q .non H', rt := Q } (vs.map some ++ List.replicate (m - vs.length) none) H := by
  obtain ⟨F, os, fp, hn, sm, ro, nd, q⟩ := h
  have hl := ro.length
  refine ⟨F, fp, initE os m, ⟨sm, by unfold initE; rw [hl]; exact REnv.start _ ro, nd⟩, ?_⟩
  unfold mkX at q
  rw [if_pos hn] at q
  cases e : body (initE os m) with
  | nx r =>
    rw [e] at q
    intro σ' F' H' fp' st sr k
    cases e2 : outs kp r 0 os with
    | none => simp only [e2] at q; exact q.elim
    | some os' =>
      simp only [e2] at q
      obtain ⟨fa, ra, na, ma⟩ := outs_ok os 0 (vs := vs) sr.env sr.nd (fun j v hv hj => by rw [Nat.zero_add] at hj ⊢; rw [k j hj]; exact start_at hv) hl (fun j v d hv hd _ => sh_rep ro st.le hv hd) e2
      exact q .non F' H' [] fa (st.weaken ma) sr.le ra (.sh .non) na
  | rt o r =>
    rw [e] at q
    intro v σ' F' H' fv fp' st sm' re rv nd' k
    have nn := List.nodup_append.mp nd'
    cases e2 : outs kp r 0 os with
    | none => simp only [e2] at q; exact q.elim
    | some os' =>
      simp only [e2] at q
      obtain ⟨fa, ra, na, ma⟩ := outs_ok os 0 (vs := vs) re nn.2.1 (fun j v hv hj => by rw [Nat.zero_add] at hj ⊢; rw [k j hj]; exact start_at hv) hl (fun j v d hv hd _ => sh_rep ro st.le hv hd) e2
      exact q v F' H' fv fa (st.weaken fun x hx => (List.mem_append.mp hx).elim (fun z => List.mem_append_left _ z) fun z => List.mem_append_right _ (ma x z)) sm' ra rv (List.nodup_append.mpr ⟨nn.1, na, fun x hx y hy e => nn.2.2 x hx y (ma y hy) e⟩)
  | ex c d r =>
    rw [e] at q
    intro σ' F' H' fp' us dd st sr k rf hx
    cases e2 : outs kp r 0 os with
    | none => simp only [e2] at q; exact q.elim
    | some os' =>
      simp only [e2] at q
      obtain ⟨fa, ra, na, ma⟩ := outs_ok os 0 (vs := vs) sr.env sr.nd (fun j v hv hj => by rw [Nat.zero_add] at hj ⊢; rw [k j hj]; exact start_at hv) hl (fun j v d hv hd _ => sh_rep ro st.le hv hd) e2
      exact q F' H' fa us dd (st.weaken ma) sr.le ra na rf hx
  | _ => rw [e] at q; exact q.elim
end
section
variable {P : Program} {w : World} {K : PySem.W.Frag} {mg : Str → Option Value} {base : Heap} {cl : Nat → Addr}
/-- THE RULE for a def out of which nothing is raised -/
theorem fn0 {x qual : Str} {st : Stmt} {f : Addr} {fd : FuncData} {N ps : List Str} {k : Nat} {kp : List Nat} {body : Env → SRes} (Fd : Fun K x qual st f fd) (S : FnScope N ps (defScope st))
    (hbody : ∀ (cdv : Value) (A : Around) (outer : List PySem.Env) (s : Shared) (H : Hp) (E : XK), Room k (A.deeper (envOfC qual (defScope st) s.heap.objs.size f cdv)) →
      PSs (cxOf CX0 P w K mg base N qual (defScope st) f cdv A outer s H E).nox (defBody st) (tS K cl E0 kp body)) : FnOk P w K mg base CX0 (k + 1) f fd ps (spF K cl ps.length (mk0 ps.length N.length kp body)) :=
  Fd.ok S (fun _ _ _ _ h => spF_len h) fun cdv A outer s H vs Q E hr h => ⟨_, hbody cdv A outer s H E hr, body0 h⟩
theorem fn0D {x qual : Str} {params : Arguments} {stm : List Stmt} {scope : Scope} {dvs : List V} {kws : List (Str × V)} {f : Addr} {fd : FuncData} {N ps : List Str} {k : Nat} {kp : List Nat} {body : Env → SRes} (Fd : FunD K x qual params stm scope dvs kws f fd) (S : FnScope N ps scope)
    (hbody : ∀ (cdv : Value) (A : Around) (outer : List PySem.Env) (s : Shared) (H : Hp) (E : XK), Room k (A.deeper (envOfC qual scope s.heap.objs.size f cdv)) →
      PSs (cxOf CX0 P w K mg base N qual scope f cdv A outer s H E).nox stm (tS K cl E0 kp body)) : FnOk P w K mg base CX0 (k + 1) f fd ps (spF K cl ps.length (mk0 ps.length N.length kp body)) :=
  Fd.ok S (fun _ _ _ _ h => spF_len h) fun cdv A outer s H vs Q E hr h => ⟨_, (hbody cdv A outer s H E hr).nox, body0 h⟩
/-- .. out of which something may be raised -/
theorem fnX {x qual : Str} {st : Stmt} {f : Addr} {fd : FuncData} {N ps : List Str} {k : Nat} {kp : List Nat} {body : Env → SRes} (Fd : Fun K x qual st f fd) (S : FnScope N ps (defScope st))
    (hbody : ∀ (cdv : Value) (A : Around) (outer : List PySem.Env) (s : Shared) (H : Hp) (E : XK), Room k (A.deeper (envOfC qual (defScope st) s.heap.objs.size f cdv)) →
      PSs (cxOf (L2.CX P w) P w K mg base N qual (defScope st) f cdv A outer s H E) (defBody st) (tS K cl E kp body)) : FnOk P w K mg base (L2.CX P w) (k + 1) f fd ps (spF K cl ps.length (mkX ps.length N.length kp body)) :=
  Fd.okX S (fun _ _ _ _ h => spF_len h) fun cdv A outer s H vs Q E hr h => ⟨_, hbody cdv A outer s H E hr, bodyX h⟩
/-- a def at the bottom of a recursion: nothing is promised -/
theorem fnNo {x qual : Str} {st : Stmt} {f : Addr} {fd : FuncData} {N ps : List Str} {k : Nat} (Fd : Fun K x qual st f fd) (S : FnScope N ps (defScope st)) : FnOk P w K mg base CX0 (k + 1) f fd ps (spF K cl ps.length fun _ => .no) :=
  Fd.ok S (fun _ _ _ _ h => spF_len h) fun cdv A outer s H vs Q E hr h => by
    obtain ⟨_, _, _, _, _, _, _, q⟩ := h
    exact q.elim
end

/-! ## calls -/
inductive Ar where
  | val (d : D) | mu (i : Nat)
def insA : List Ar → Env → Option (List O)
  | [], _ => some []
  | .val d :: as, ρ => (insA as ρ).map (.sh d :: ·)
  | .mu i :: as, ρ => (slot ρ i).bind fun o => (insA as (ρ.set i none)).map (o :: ·)
def hideA : List Ar → Env → Env
  | [], ρ => ρ
  | .val _ :: as, ρ => hideA as ρ
  | .mu i :: as, ρ => hideA as (ρ.set i none)
def backA : List Ar → List O → Env → Env
  | .val _ :: as, _ :: os, ρ => backA as os ρ
  | .mu i :: as, o :: os, ρ => (backA as os ρ).set i (some o)
  | _, _, ρ => ρ
inductive RAr (K : PySem.W.Frag) (cl : Nat → Addr) (σ : L2.St) (F : Hp) : List V → List Ar → Prop
  | nil : RAr K cl σ F [] []
  | val {v : V} {vs : List V} {d : D} {as : List Ar} : Rep K cl F v d → RAr K cl σ F vs as → RAr K cl σ F (v :: vs) (.val d :: as)
  | mu {v : V} {vs : List V} {i : Nat} {as : List Ar} : σ[i]? = some (some v) → RAr K cl σ F vs as → RAr K cl σ F (v :: vs) (.mu i :: as)
section
variable {K : PySem.W.Frag} {cl : Nat → Addr} {E : XK} {F F' F1 H H' H1 : Hp} {fp fp' fp1 : List Addr} {σ σ' : L2.St} {ρ r : Env}
theorem RAr.mono (s : Same F F') : ∀ {vs : List V} {as : List Ar}, RAr K cl σ F vs as → RAr K cl σ F' vs as
  | _, _, .nil => .nil
  | _, _, .val r t => .val (r.mono s) (RAr.mono s t)
  | _, _, .mu h t => .mu h (RAr.mono s t)
theorem takeA : ∀ {as : List Ar} {vs : List V} {ρ : Env} {fp : List Addr} {os : List O}, RAr K cl σ F vs as → REnv K cl F H σ ρ fp → fp.Nodup → insA as ρ = some os →
    ∃ fa fr, ROwns K cl F H vs os fa ∧ fa.Nodup ∧ REnv K cl F H σ (hideA as ρ) fr ∧ fr.Nodup ∧ (∀ a ∈ fa, a ∉ fr) ∧ ∀ a, a ∈ fa ∨ a ∈ fr → a ∈ fp
  | [], _, ρ, fp, os, h, re, n, e => by
    cases h
    cases e
    exact ⟨[], fp, .nil, .nil, re, n, (fun a h => nomatch h), fun a h => h.elim (fun z => nomatch z) id⟩
  | .val d :: as, _, ρ, fp, os, h, re, n, e => by
    cases h with
    | val r t =>
      have e : (insA as ρ).map (.sh d :: ·) = some os := e
      cases e2 : insA as ρ with
      | none => rw [e2] at e; cases e
      | some os2 =>
        rw [e2] at e
        cases e
        obtain ⟨fa, fr, r1, n1, r2, n2, dj, m⟩ := takeA t re n e2
        exact ⟨fa, fr, .cons (fp := []) (.sh r) r1, n1, r2, n2, dj, m⟩
  | .mu i :: as, _, ρ, fp, os, h, re, n, e => by
    cases h with
    | mu hv t =>
      have e : ((slot ρ i).bind fun o => (insA as (ρ.set i none)).map (o :: ·)) = some os := e
      cases e1 : slot ρ i with
      | none => rw [e1] at e; cases e
      | some o =>
        rw [e1] at e
        have e : (insA as (ρ.set i none)).map (o :: ·) = some os := e
        cases e2 : insA as (ρ.set i none) with
        | none => rw [e2] at e; cases e
        | some os2 =>
          rw [e2] at e
          cases e
          obtain ⟨v', fo, fr0, hv', ro, n1, dj1, m1, n2, re2⟩ := re.hole n (slot_get e1)
          rw [hv] at hv'
          cases hv'
          obtain ⟨fa, fr, r1, n3, r2, n4, dj, m⟩ := takeA t re2 n2 e2
          refine ⟨fo ++ fa, fr, .cons ro r1, List.nodup_append.mpr ⟨n1, n3, fun x hx y hy z => dj1 x hx (m x (.inl (z ▸ hy)))⟩, r2, n4, fun x hx hy => ?_, fun x hx => ?_⟩
          · rcases List.mem_append.mp hx with z | z
            · exact dj1 x z (m x (.inr hy))
            · exact dj x z hy
          · rcases hx with z | z
            · rcases List.mem_append.mp z with z | z
              · exact (m1 x).mpr (.inl z)
              · exact (m1 x).mpr (.inr (m x (.inl z)))
            · exact (m1 x).mpr (.inr (m x (.inr z)))
theorem giveA : ∀ {as : List Ar} {vs : List V} {os : List O} {ρ : Env} {fr fa : List Addr}, RAr K cl σ F vs as → REnv K cl F H σ ρ fr → ROwns K cl F H vs os fa → (fa ++ fr).Nodup →
    ∃ fp, REnv K cl F H σ (backA as os ρ) fp ∧ fp.Nodup ∧ ∀ a ∈ fp, a ∈ fa ++ fr
  | [], _, os, ρ, fr, fa, h, re, ro, n => by
    cases h
    cases ro
    exact ⟨fr, re, n, fun _ h => h⟩
  | .val d :: as, _, os, ρ, fr, fa, h, re, ro, n => by
    cases h with
    | val r t =>
      cases ro with
      | cons a b =>
        rw [List.append_assoc] at n
        obtain ⟨fp, r1, n1, m⟩ := giveA t re b (List.nodup_append.mp n).2.1
        exact ⟨fp, r1, n1, fun x hx => by rw [List.append_assoc]; exact List.mem_append_right _ (m x hx)⟩
  | .mu i :: as, _, os, ρ, fr, fa, h, re, ro, n => by
    cases h with
    | mu hv t =>
      cases ro with
      | cons a b =>
        rw [List.append_assoc] at n
        have nn := List.nodup_append.mp n
        obtain ⟨fp, r1, n1, m⟩ := giveA t re b nn.2.1
        obtain ⟨fp2, r2, n2, m2⟩ := REnv.setA (i := i) r1 a (List.nodup_append.mpr ⟨nn.1, n1, fun x hx y hy e => nn.2.2 x hx y (m y hy) e⟩)
        rw [setSelf hv] at r2
        exact ⟨fp2, r2, n2, fun x hx => by
          rw [List.append_assoc]
          rcases List.mem_append.mp (m2 x hx) with z | z
          · exact List.mem_append_left _ z
          · exact List.mem_append_right _ (m x z)⟩
end
abbrev rAr (K : PySem.W.Frag) (cl : Nat → Addr) : Rel (List V) (List Ar) := fun σ F v d => RAr K cl σ F v d
abbrev tAr (K : PySem.W.Frag) (cl : Nat → Addr) (E : XK) (f : Env → Res (List Ar)) : TA := tM K cl E (rAr K cl) f
section
variable {X : Cx} {cl : Nat → Addr} {E : XK} {kp : List Nat} {a b c e : Expr} {es : List Expr} {pos : Pos}
def rN : Env → Res (List Ar) := fun ρ => .ok [] ρ
def rC (f : Env → Res D) (g : Env → Res (List Ar)) : Env → Res (List Ar) := fun ρ => (f ρ).bind fun x r => (g r).bind fun xs r' => .ok (.val x :: xs) r'
def rM (i : Nat) (g : Env → Res (List Ar)) : Env → Res (List Ar) := fun ρ => match slot ρ i with
  | some _ => (g ρ).bind fun xs r' => .ok (.mu i :: xs) r'
  | none => .no
theorem r_nil : PA X [] (tAr X.K cl E rN) := PA.imp pa_nil fun σ H Q ⟨F, fp, ρ, sr, q⟩ => q [] F H fp Stp.refl sr .nil
theorem r_cons {f : Env → Res D} {g : Env → Res (List Ar)} (ha : PE X e (tV X.K cl E f)) (hr : PA X es (tAr X.K cl E g)) (hs : starEach (e :: es) X.env = (false, eval e X.env) :: starEach es X.env := by rfl) : PA X (e :: es) (tAr X.K cl E (rC f g)) := by
  refine PA.imp (pa_cons ha hr hs) fun σ H Q ⟨F, fp, ρ, sr, q⟩ => ?_
  refine wp_bindV sr q fun x dx ρ1 F1 H1 fp1 st1 sr1 rx q1 => ?_
  refine wp_bindV sr1 q1 fun xs ds ρ2 F2 H2 fp2 st2 sr2 rs q2 => ?_
  exact q2 (x :: xs) F2 H2 fp2 Stp.refl sr2 (.val (rx.mono st2.le dx) rs)
/-- an argument that is handed on to be changed: the name in slot i -/
theorem r_mut (i : Nat) {g : Env → Res (List Ar)} (ha : PE X e (tVar i)) (hr : PA X es (tAr X.K cl E g)) (hs : starEach (e :: es) X.env = (false, eval e X.env) :: starEach es X.env := by rfl) : PA X (e :: es) (tAr X.K cl E (rM i g)) := by
  refine PA.imp (pa_cons ha hr hs) fun σ H Q ⟨F, fp, ρ, sr, q⟩ => ?_
  unfold rM at q
  cases e1 : slot ρ i with
  | none => simp only [e1] at q; exact q.elim
  | some o =>
    simp only [e1] at q
    obtain ⟨v, fq, hv, _, _⟩ := sr.env.get (slot_get e1)
    refine ⟨v, hv, ?_⟩
    refine wp_bindV sr q fun xs ds ρ2 F2 H2 fp2 st2 sr2 rs q2 => ?_
    exact q2 (v :: xs) F2 H2 fp2 Stp.refl sr2 (.mu hv rs)
def callA (Φ : List O → FRes) (dds : List D) (as : List Ar) (r : Env) : Res O := match insA as r with
  | none => .no
  | some os => match Φ (os ++ dds.map O.sh) with
    | .ok o os' => .ok o (backA as os' (hideA as r))
    | .ex c d os' => .ex c d (backA as os' (hideA as r))
    | .no => .no
def eCall (Φ : List O → FRes) (dds : List D) (f : Env → Res (List Ar)) : Env → Res O := fun ρ => (f ρ).bind fun as r => callA Φ dds as r
theorem ROwns.take_left {K : PySem.W.Frag} {F H : Hp} : ∀ {vs us : List V} {os : List O} {fp : List Addr}, ROwns K cl F H (vs ++ us) os fp → ∃ fa, ROwns K cl F H vs (os.take vs.length) fa ∧ (fp.Nodup → fa.Nodup) ∧ ∀ a ∈ fa, a ∈ fp
  | [], _, _, fp, h => ⟨[], by rw [List.length_nil, List.take_zero]; exact .nil, fun _ => .nil, fun _ h => nomatch h⟩
  | v :: vs, us, _, _, .cons (fp := f1) (fq := f2) a b => by
    obtain ⟨fa, r, n, m⟩ := ROwns.take_left b
    refine ⟨f1 ++ fa, .cons a r, fun nd => ?_, fun x hx => ?_⟩
    · have nn := List.nodup_append.mp nd
      exact List.nodup_append.mpr ⟨nn.1, n nn.2.1, fun x hx y hy e => nn.2.2 x hx y (m y hy) e⟩
    · rcases List.mem_append.mp hx with z | z
      · exact List.mem_append_left _ z
      · exact List.mem_append_right _ (m x z)
theorem backA_take : ∀ {as : List Ar} {os : List O} {ρ : Env} {n : Nat}, as.length ≤ n → backA as (os.take n) ρ = backA as os ρ
  | [], os, ρ, n, _ => by cases os <;> simp [backA]
  | .val d :: as, [], ρ, n, h => by simp
  | .mu i :: as, [], ρ, n, h => by simp
  | .val d :: as, o :: os, ρ, 0, h => by simp at h
  | .mu i :: as, o :: os, ρ, 0, h => by simp at h
  | .val d :: as, o :: os, ρ, n + 1, h => by
    rw [List.take_succ_cons]
    exact backA_take (by simpa using h)
  | .mu i :: as, o :: os, ρ, n + 1, h => by
    rw [List.take_succ_cons]
    show (backA as (os.take n) ρ).set i (some o) = (backA as os ρ).set i (some o)
    rw [backA_take (by simpa using h)]
theorem RAr.length {K : PySem.W.Frag} {σ : L2.St} {F : Hp} : ∀ {vs : List V} {as : List Ar}, RAr K cl σ F vs as → vs.length = as.length
  | _, _, .nil => rfl
  | _, _, .val _ t => by rw [List.length_cons, List.length_cons, RAr.length t]
  | _, _, .mu _ t => by rw [List.length_cons, List.length_cons, RAr.length t]
theorem call_read {Φ : List O → FRes} {n : Nat} {dvs : List V} {dds : List D} {f : Env → Res (List Ar)} {σ : L2.St} {H : Hp} {Q : VK} (hd : ∀ F, Reps X.K cl F dvs dds)
    (hn : ∀ os, Φ os ≠ .no → os.length = n) (h : tO X.K cl E (eCall Φ dds f) σ H Q) : tCall (spF X.K cl n Φ) dvs E (tAr X.K cl E f) σ H Q := by
  obtain ⟨F, fp, ρ, sr, q⟩ := h
  refine wp_bindO sr q fun vs as r F1 H1 fp1 st1 sr1 ra q1 => ?_
  unfold callA at q1
  cases e1 : insA as r with
  | none => simp only [e1] at q1; exact q1.elim
  | some os =>
    simp only [e1] at q1
    obtain ⟨fa, fr, r1, n1, r2, n2, dj, m⟩ := takeA ra sr1.env sr1.nd e1
    have thr : ∀ x ∈ fr, ∃ u, H1 x = some u := fun x hx => (r2.there x hx).2
    have djr : ∀ x ∈ fr, x ∉ fa := fun x hx hy => dj x hy hx
    have ro : ROwns X.K cl F1 H1 (vs ++ dvs) (os ++ dds.map O.sh) fa := by
      have := r1.append (ROwns.of_reps (H := H1) (hd F1))
      simpa using this
    refine ⟨F1, os ++ dds.map O.sh, fa, ?_, sr1.le, ro, n1, ?_⟩
    · refine hn _ fun z => ?_
      simp only [z] at q1
      exact q1.elim
    · cases e2 : Φ (os ++ dds.map O.sh) with
      | no => simp only [e2] at q1; exact q1.elim
      | ok o os' =>
        simp only [e2] at q1
        intro v F' H' fv fa' st sm ro' rv nd
        have nn := List.nodup_append.mp nd
        obtain ⟨fb, rb, nb, mb⟩ := ROwns.take_left ro'
        have re' := st.env r2 djr
        have ap := st.apart thr djr
        obtain ⟨fp2, r3, n3, m3⟩ := giveA (ra.mono st.le) re' rb (List.nodup_append.mpr ⟨nb nn.2.1, n2, fun x hx y hy e => ap y hy (List.mem_append_right _ (mb y (e ▸ hx)))⟩)
        rw [backA_take (by rw [RAr.length ra]; exact Nat.le_refl _)] at r3
        refine q1 v F' H' fv fp2 ?_ sm r3 rv (List.nodup_append.mpr ⟨nn.1, n3, fun x hx y hy e => ?_⟩)
        · refine ((st.more fr).base fun x hx => m x ((List.mem_append.mp hx).symm)).weaken fun x hx => ?_
          rcases List.mem_append.mp hx with z | z
          · exact List.mem_append_right _ (List.mem_append_left _ z)
          · rcases List.mem_append.mp (m3 x z) with z | z
            · exact List.mem_append_right _ (List.mem_append_right _ (mb x z))
            · exact List.mem_append_left _ z
        · subst e
          rcases List.mem_append.mp (m3 x hy) with z | z
          · exact nn.2.2 x hx x (mb x z) rfl
          · exact ap x z (List.mem_append_left _ hx)
      | ex c d os' =>
        simp only [e2] at q1
        intro F' H' fa' us dd st sm ro' nd rf hx
        obtain ⟨fb, rb, nb, mb⟩ := ROwns.take_left ro'
        have re' := st.env r2 djr
        have ap := st.apart thr djr
        obtain ⟨fp2, r3, n3, m3⟩ := giveA (ra.mono st.le) re' rb (List.nodup_append.mpr ⟨nb nd, n2, fun x hx y hy e => ap y hy (mb y (e ▸ hx))⟩)
        rw [backA_take (by rw [RAr.length ra]; exact Nat.le_refl _)] at r3
        refine q1 F' H' fp2 us dd ?_ ⟨sm, r3, n3⟩ rf hx
        refine ((st.more fr).base fun x hx => m x ((List.mem_append.mp hx).symm)).weaken fun x hx => ?_
        rcases List.mem_append.mp (m3 x hx) with z | z
        · exact List.mem_append_right _ (mb x z)
        · exact List.mem_append_left _ z
/-- f(..) -/
theorem m_call {CX : CXT} {k n : Nat} {g : Addr} {fd : FuncData} {ps : List Str} {Φ : List O → FRes} {dvs : List V} {dds : List D} {ds : List Value} {x : Str} {p : Pos} {f : Env → Res (List Ar)} (Fg : FnOk X.prog X.w X.K X.mg X.base CX k g fd ps (spF X.K cl n Φ)) (hr : Room k X.A) (hg : Gl X x) (hm : X.mg x = some (.ref g))
    (hk : PySem.W.keepIn X.K (.ref g) = true) (hb : Binds X.K fd ps ds) (hd : Vals dvs ds) (hx : Passes CX X E) (hn : ∀ os, Φ os ≠ .no → os.length = n) (hD : ∀ F, Reps X.K cl F dvs dds) (ha : PA X (e :: es) (tAr X.K cl E f))
    (hdb : (x == ("__debug__" : Str)) = false := by decide) (he : starEach (e :: es) X.env = (false, eval e X.env) :: starEach es X.env := by rfl) (hpl : (backTo pos (starEach es X.env)).any (·.1) = false := by rfl) :
    PE X (.Call (.Name x p) (e :: es) [] pos) (tO X.K cl E (eCall Φ dds f)) :=
  PE.imp (pe_call Fg hr hg hm hk hb hd hx ha hdb he hpl) fun _ _ _ q => call_read hD hn q
end
end Tk

set_option Elab.async false
set_option linter.all false
set_option maxRecDepth 100000
set_option maxHeartbeats 4000000
namespace Tk
open PySem PySem.Spec PyProof.Rows L2

section
variable {K : PySem.W.Frag} {cl : Nat → Addr} {E : XK} {F F' F1 H H' H1 : Hp} {fp fp' fp1 fv : List Addr} {σ σ' : L2.St} {ρ r : Env}
/-! ## an owned list in a slot is changed at its address -/
/-- the slot i holds a tree at a; its object becomes u, the tree t' -/
theorem REnv.write {i : Nat} {o t : O} {a : Addr} {u : HO} (sr : SR K cl F H σ ρ fp) (e : ρ[i]? = some (some o))
    (h : ∀ fo, ROwn K cl F H (.ref a) o fo → fo.Nodup → (∀ x ∈ fo, x ∉ fv) → a ∈ fo ∧ ∃ ft, ROwn K cl F (upd H a u) (.ref a) t ft ∧ ft.Nodup ∧ ∀ x ∈ ft, x ∈ fo ∨ x ∈ fv)
    (ha : ∀ v fo, ROwn K cl F H v o fo → v = .ref a) (nv : (fv ++ fp).Nodup) : ∃ fp', SR K cl F (upd H a u) σ (ρ.set i (some t)) fp' ∧ Stp F H (fv ++ fp) F (upd H a u) fp' := by
  obtain ⟨v, fo, fr, hv, ro, n1, dj, m, n2, re⟩ := sr.env.hole sr.nd e
  have nn := List.nodup_append.mp nv
  cases ha v fo ro
  obtain ⟨ma, ft, rt, nt, mt⟩ := h fo ro n1 fun x hx hy => nn.2.2 x hy x ((m x).mpr (.inl hx)) rfl
  have nF : F a = none := (ROwn.there o ro a ma).1
  have afr : a ∉ fr := dj a ma
  have un : ∀ x, x ≠ a → upd H a u x = H x := fun x hx => upd_ne hx
  have re' : REnv K cl F (upd H a u) σ (ρ.set i none) fr := REnv.mono (Same.refl _) (fun x hx w hw => by rw [un x fun z => afr (z ▸ hx)]; exact hw) (fun _ _ h => h) re
  have dft : ∀ x ∈ ft, x ∉ fr := fun x hx hy => (mt x hx).elim (fun z => dj x z hy) fun z => nn.2.2 x z x ((m x).mpr (.inr hy)) rfl
  obtain ⟨fp', r2, n3, m3⟩ := REnv.setA (i := i) re' rt (List.nodup_append.mpr ⟨nt, n2, fun x hx y hy e => dft x hx (e ▸ hy)⟩)
  rw [setSelf hv, List.set_set] at r2
  refine ⟨fp', ⟨fun x w hw => ?_, r2, n3⟩, ⟨Same.refl _, fun x w hw mx => ?_, fun x hx => ?_, fun x hx => .inl hx⟩⟩
  · rw [un x fun z => by subst z; rw [nF] at hw; cases hw]
    exact sr.le x w hw
  · rw [un x fun z => by
      subst z
      exact mx (List.mem_append_right _ ((m x).mpr (.inl ma)))]
    exact hw
  · rcases List.mem_append.mp (m3 x hx) with z | z
    · rcases mt x z with y | y
      · exact .inl (List.mem_append_right _ ((m x).mpr (.inl y)))
      · exact .inl (List.mem_append_left _ y)
    · exact .inl (List.mem_append_right _ ((m x).mpr (.inr z)))
theorem ROwns.set : ∀ {vs : List V} {os : List O} {fp : List Addr} {v : V} {o : O} (j : Nat), ROwns K cl F H vs os fp → ROwn K cl F H v o fv → fp.Nodup → fv.Nodup → (∀ x ∈ fv, x ∉ fp) →
    ∃ fp', ROwns K cl F H (vs.set j v) (os.set j o) fp' ∧ fp'.Nodup ∧ ∀ x ∈ fp', x ∈ fp ∨ x ∈ fv
  | _, _, _, _, _, _, .nil, _, _, _, _ => ⟨[], .nil, .nil, fun _ h => nomatch h⟩
  | _, _, _, _, _, 0, .cons (fp := f1) (fq := f2) a b, r, n, nv, d => ⟨fv ++ f2, .cons r b, List.nodup_append.mpr ⟨nv, (List.nodup_append.mp n).2.1, fun x hx y hy e => d x hx (List.mem_append_right _ (e ▸ hy))⟩,
      fun x hx => (List.mem_append.mp hx).elim .inr fun z => .inl (List.mem_append_right _ z)⟩
  | _, _, _, _, _, j + 1, .cons (fp := f1) (fq := f2) a b, r, n, nv, d => by
    have nn := List.nodup_append.mp n
    obtain ⟨fp', r', n', m⟩ := ROwns.set j b r nn.2.1 nv fun x hx hy => d x hx (List.mem_append_right _ hy)
    refine ⟨f1 ++ fp', .cons a r', List.nodup_append.mpr ⟨nn.1, n', fun x hx y hy e => ?_⟩, fun x hx => ?_⟩
    · subst e
      rcases m x hy with z | z
      · exact nn.2.2 x hx x z rfl
      · exact d x z (List.mem_append_left _ hx)
    · rcases List.mem_append.mp hx with z | z
      · exact .inl (List.mem_append_left _ z)
      · exact (m x z).elim (fun y => .inl (List.mem_append_right _ y)) .inr
theorem lst_ref {v : V} {os : List O} {fo : List Addr} (r : ROwn K cl F H v (.lst os) fo) : ∃ a vs fq, v = .ref a ∧ H a = some (.lst vs) ∧ F a = none ∧ ROwns K cl F H vs os fq ∧ fo = a :: fq := by
  cases r with
  | lst a b c => exact ⟨_, _, _, rfl, a, b, c, rfl⟩
theorem upd_owns {a : Addr} {u : HO} {vs : List V} {os : List O} (h : a ∉ fv) (r : ROwns K cl F H vs os fv) : ROwns K cl F (upd H a u) vs os fv :=
  ROwns.mono (Same.refl _) os (fun x hx w hw => by rw [upd_ne fun (z : x = a) => h (z ▸ hx)]; exact hw) (fun _ _ h => h) r
theorem upd_own {a : Addr} {u : HO} {v : V} {o : O} (h : a ∉ fv) (r : ROwn K cl F H v o fv) : ROwn K cl F (upd H a u) v o fv :=
  ROwn.mono (Same.refl _) o (fun x hx w hw => by rw [upd_ne fun (z : x = a) => h (z ▸ hx)]; exact hw) (fun _ _ h => h) r
/-- an owned list gets new items: vs2, os2 of footprint within the old one and fv -/
theorem write_list {i : Nat} {os : List O} {a : Addr} {vs : List V} (sr : SR K cl F H σ ρ fp) (e : ρ[i]? = some (some (.lst os))) (hv : σ[i]? = some (some (.ref a))) (hH : H a = some (.lst vs)) (nv : (fv ++ fp).Nodup)
    {vs2 : List V} {os2 : List O} (h : ∀ fq, ROwns K cl F H vs os fq → fq.Nodup → (∀ x ∈ fv, x ∉ fq) → ∃ ft, ROwns K cl F H vs2 os2 ft ∧ ft.Nodup ∧ ∀ x ∈ ft, x ∈ fq ∨ x ∈ fv) :
    ∃ fp', SR K cl F (upd H a (.lst vs2)) σ (ρ.set i (some (.lst os2))) fp' ∧ Stp F H (fv ++ fp) F (upd H a (.lst vs2)) fp' := by
  obtain ⟨v0, fo0, hv0, ro0, _⟩ := sr.env.get e
  rw [hv] at hv0
  cases hv0
  have nn := List.nodup_append.mp nv
  obtain ⟨v1, fo, fr, hv1, ro1, n1, dj, m, n2, re⟩ := sr.env.hole sr.nd e
  rw [hv] at hv1
  cases hv1
  obtain ⟨a', vs', fq, e1, e2, e3, e4, e5⟩ := lst_ref ro1
  cases e1
  rw [hH] at e2
  cases e2
  subst e5
  have n1' := List.nodup_cons.mp n1
  have afv : a ∉ fv := fun z => nn.2.2 a z a ((m a).mpr (.inl List.mem_cons_self)) rfl
  have dfv : ∀ x ∈ fv, x ∉ fq := fun x hx hy => nn.2.2 x hx x ((m x).mpr (.inl (List.mem_cons_of_mem _ hy))) rfl
  obtain ⟨ft, rt, nt, mt⟩ := h fq e4 n1'.2 dfv
  have aft : a ∉ ft := fun z => (mt a z).elim n1'.1 afv
  have afr : a ∉ fr := dj a List.mem_cons_self
  have un : ∀ x, x ≠ a → upd H a (.lst vs2) x = H x := fun x hx => upd_ne hx
  have re' : REnv K cl F (upd H a (.lst vs2)) σ (ρ.set i none) fr := REnv.mono (Same.refl _) (fun x hx w hw => by rw [un x fun z => afr (z ▸ hx)]; exact hw) (fun _ _ h => h) re
  have rt' : ROwn K cl F (upd H a (.lst vs2)) (.ref a) (.lst os2) (a :: ft) := .lst upd_same e3 (upd_owns aft rt)
  have dft : ∀ x ∈ a :: ft, x ∉ fr := fun x hx hy => by
    rcases List.mem_cons.mp hx with z | z
    · exact afr (z ▸ hy)
    · rcases mt x z with y | y
      · exact dj x (List.mem_cons_of_mem _ y) hy
      · exact nn.2.2 x y x ((m x).mpr (.inr hy)) rfl
  obtain ⟨fp', r2, n3, m3⟩ := REnv.setA (i := i) re' rt' (List.nodup_append.mpr ⟨List.nodup_cons.mpr ⟨aft, nt⟩, n2, fun x hx y hy e => dft x hx (e ▸ hy)⟩)
  rw [setSelf hv, List.set_set] at r2
  refine ⟨fp', ⟨fun x w hw => ?_, r2, n3⟩, ⟨Same.refl _, fun x w hw mx => ?_, fun x hx => ?_, fun x hx => .inl hx⟩⟩
  · rw [un x fun z => by subst z; rw [e3] at hw; cases hw]
    exact sr.le x w hw
  · rw [un x fun z => by
      subst z
      exact mx (List.mem_append_right _ ((m x).mpr (.inl List.mem_cons_self)))]
    exact hw
  · rcases List.mem_append.mp (m3 x hx) with z | z
    · rcases List.mem_cons.mp z with y | y
      · exact .inl (List.mem_append_right _ ((m x).mpr (.inl (y ▸ List.mem_cons_self))))
      · rcases mt x y with y | y
        · exact .inl (List.mem_append_right _ ((m x).mpr (.inl (List.mem_cons_of_mem _ y))))
        · exact .inl (List.mem_append_left _ y)
    · exact .inl (List.mem_append_right _ ((m x).mpr (.inr z)))
theorem SRv {v : V} {o : O} (sm : Same F H) (re : REnv K cl F H σ ρ fp) (n : (fv ++ fp).Nodup) : SR K cl F H σ ρ fp := ⟨sm, re, (List.nodup_append.mp n).2.1⟩
theorem slot_lst {i : Nat} {os : List O} (sr : SR K cl F H σ ρ fp) (e : slot ρ i = some (.lst os)) : ∃ a vs fq, σ[i]? = some (some (.ref a)) ∧ H a = some (.lst vs) ∧ ROwns K cl F H vs os fq ∧ (∀ x ∈ fq, x ∈ fp) ∧ a ∈ fp := by
  obtain ⟨v, fo, hv, ro, m⟩ := sr.env.get (slot_get e)
  obtain ⟨a, vs, fq, e1, e2, _, e4, e5⟩ := lst_ref ro
  subst e1 e5
  exact ⟨a, vs, fq, hv, e2, e4, fun x hx => m x (List.mem_cons_of_mem _ hx), m a List.mem_cons_self⟩
end
section
variable {X : Cx} {cl : Nat → Addr} {E : XK} {kp : List Nat} {a b c e : Expr} {es : List Expr} {pos apos : Pos}
/-! ## x.append(e) -/
def sApp (i : Nat) (f : Env → Res O) : Env → SRes := fun ρ => match slot ρ i with
  | some (.lst _) => sB (f ρ) fun o r => match slot r i with
    | some (.lst os) => if os.length < sizeLine then .nx (r.set i (some (.lst (os ++ [o])))) else .no
    | _ => .no
  | _ => .no
theorem s_append (i : Nat) {f : Env → Res O} {ob : Expr} (ho : PE X ob (tVar i)) (he : PE X e (tO X.K cl E f)) (hbase : attributeBase ob "append" X.env (eval ob X.env) = eval ob X.env := by rfl)
    (hfew : ((backTo pos (starEach [e] X.env)).all (fun x => !x.1) && (backToKw pos (keywordEach [] X.env)).all (fun x => x.1.isSome)
      && decide (([e] : List Expr).length + ([] : List Keyword).length + (if ([] : List Keyword).isEmpty then 0 else 1) < 30)) = true := by rfl)
    (hline : (apos.endLine == pos.line) = true := by rfl) (hs : starEach [e] X.env = (false, eval e X.env) :: starEach [] X.env := by rfl) (hplain : (backTo pos (starEach [] X.env)).any (·.1) = false := by rfl) {epos : Pos}
    (hsw : swapsWith (.Call (.Attribute ob "append" apos) [e] [] pos) none epos.line X.env = pure false := by rfl) :
    PS X (.Expr (.Call (.Attribute ob "append" apos) [e] [] pos) epos) (tS X.K cl E kp (sApp i f)) := by
  refine PS.imp (ps_expr (pe_bm PySem.F.plainAttrs_list PySem.F.slot_list_append PySem.F.type_list_append mt_append ho (pa_cons he pa_nil hs) hbase hfew hline hs hplain) hsw) fun D σ H ⟨F, fp, ρ, sr, q⟩ => ?_
  unfold sApp at q
  split at q
  · rename_i os0 e0
    obtain ⟨a0, vs0, fq0, hv0, hH0, _, _, _⟩ := slot_lst sr e0
    refine ⟨.ref a0, hv0, .inl ⟨rfl, vs0, .inl (.inl hH0)⟩, ?_⟩
    refine wp_SO sr q fun v o ρ1 F1 H1 fv fp1 st1 sm re ro n q1 => ?_
    split at q1
    · rename_i os e1
      split at q1
      · rename_i hlt
        have sr1 : SR X.K cl F1 H1 σ ρ1 fp1 := ⟨sm, re, (List.nodup_append.mp n).2.1⟩
        obtain ⟨a, vs, fq, hv, hH, r1, _, _⟩ := slot_lst sr1 e1
        rw [hv0] at hv
        cases hv
        refine ⟨a0, vs, v, rfl, rfl, hH, by rw [r1.length]; exact hlt, ?_⟩
        obtain ⟨fp', s2, st2⟩ := write_list (vs2 := vs ++ [v]) (os2 := os ++ [o]) sr1 (slot_get e1) hv0 hH n fun fq rq nq dq => ⟨fq ++ fv, by simpa using rq.append (ROwns.cons ro .nil), List.nodup_append.mpr ⟨nq, (List.nodup_append.mp n).1, fun x hx y hy z => dq y hy (z ▸ hx)⟩, fun x hx => List.mem_append.mp hx⟩
        exact q1 σ F1 _ fp' st2 s2 Kept.refl
      · exact q1.elim
    · exact q1.elim
  · exact q.elim
/-! ## x[ix] = e -/
def sSto (i : Nat) (ix : Env → Res D) (f : Env → Res D) : Env → SRes := fun ρ => sB (f ρ) fun d r => match slot r i with
  | some (.lst _) => sB (ix r) fun k r1 => match k, slot r1 i with
    | .int k, some (.lst os) => match ixN os.length k with
      | some j => .nx (r1.set i (some (.lst (os.set j (.sh d)))))
      | none => .no
    | _, _ => .no
  | _ => .no
theorem s_store (i : Nat) {ix f : Env → Res D} {ob ie : Expr} {p2 : Pos} (ho : PE X ob (tVar i)) (hi : PE X ie (tV X.K cl E ix)) (he : PE X e (tV X.K cl E f))
    (ha : ∀ v, assign (.Subscript ob ie p2) X.env v = (do
      let ov ← holding [v] (eval ob X.env)
      let iv ← holding [v, ov] (eval ie X.env)
      standAt p2
      holding [v, ov, iv] (setItem ov iv v)
      release [v, ov, iv] []) := by intro _; rfl)
    (hs : swapsWithSole [.Subscript ob ie p2] e pos.line X.env = pure false := by rfl) (hw : swappedStores [.Subscript ob ie p2] e X.env = pure none := by rfl)
    (h1 : (assignEach [.Subscript ob ie p2] X.env).map (·.2) = [assign (.Subscript ob ie p2) X.env] := by rfl) : PS X (.Assign [.Subscript ob ie p2] e pos) (tS X.K cl E kp (sSto i ix f)) := by
  refine PS.imp (ps_asg he (pg_sub ho hi set_list ha) hs hw h1) fun D σ H ⟨F, fp, ρ, sr, q⟩ => ?_
  refine wp_S sr q fun v d ρ1 F1 H1 fp1 st1 sr1 rv q1 => ?_
  split at q1
  · rename_i os0 e0
    obtain ⟨a0, vs0, fq0, hv0, hH0, _, _, _⟩ := slot_lst sr1 e0
    refine ⟨.ref a0, hv0, ?_⟩
    refine wp_S sr1 q1 fun x dx ρ2 F2 H2 fp2 st2 sr2 rx q2 => ?_
    split at q2
    · rename_i k os ek
      split at q2
      · rename_i j ej
        obtain ⟨a, vs, fq, hv, hH, r1, _, _⟩ := slot_lst sr2 ek
        rw [hv0] at hv
        cases hv
        cases rx
        refine ⟨a0, vs, k, j, rfl, rfl, hH, by rw [r1.length]; exact ej, ?_⟩
        obtain ⟨fp', s3, st3⟩ := write_list (fv := []) (vs2 := vs.set j v) (os2 := os.set j (.sh d)) sr2 (slot_get ek) hv0 hH (by simpa using sr2.nd) fun fq rq nq dq => ROwns.set j rq (.sh (rv.mono st2.le d)) nq .nil (fun _ h => nomatch h)
        exact q2 σ F2 _ fp' (by simpa using st3) s3 Kept.refl
      · exact q2.elim
    · exact q2.elim
  · exact q1.elim
/-! ## an item of an owned list -/
def eIxO (i : Nat) (ix : Env → Res D) : Env → Res D := fun ρ => match slot ρ i with
  | some (.lst _) => (ix ρ).bind fun k r => match k, slot r i with
    | .int k, some (.lst os) => match atI os k with
      | some (.sh d) => .ok d r
      | _ => .no
    | _, _ => .no
  | _ => .no
theorem atI_eq {α β : Type} {xs : List α} {ys : List β} (hl : xs.length = ys.length) {k : Int} {y : β} (h : atI ys k = some y) : ∃ j : Nat, ys[j]? = some y ∧ ∀ x, xs[j]? = some x → atI xs k = some x := by
  unfold atI at h
  cases e : ixN ys.length k with
  | none => rw [e] at h; cases h
  | some j =>
    rw [e] at h
    exact ⟨j, h, fun x hx => by unfold atI; rw [hl, e]; exact hx⟩
theorem m_ixO (i : Nat) {ix : Env → Res D} {ob : Expr} (ho : PE X ob (tVar i)) (hi : PE X b (tV X.K cl E ix)) (hs : PlainIx b := by intro _ _; rfl) : PE X (.Subscript ob b pos) (tV X.K cl E (eIxO i ix)) := by
  refine PE.imp (pe_ix ix_list ho hi hs) fun σ H Q ⟨F, fp, ρ, sr, q⟩ => ?_
  unfold eIxO at q
  split at q
  · rename_i os0 e0
    obtain ⟨a0, vs0, fq0, hv0, hH0, _, _, _⟩ := slot_lst sr e0
    refine ⟨.ref a0, hv0, ?_⟩
    refine wp_bindV sr q fun x dx ρ2 F2 H2 fp2 st2 sr2 rx q2 => ?_
    split at q2
    · rename_i k os ek
      split at q2
      · rename_i d ed
        obtain ⟨a, vs, fq, hv, hH, r1, _, _⟩ := slot_lst sr2 ek
        rw [hv0] at hv
        cases hv
        cases rx
        obtain ⟨j, hj, hx⟩ := atI_eq r1.length ed
        obtain ⟨v, fw, hvj, rw', _⟩ := r1.get hj
        cases rw' with
        | sh rd => exact ⟨a0, vs, k, v, rfl, rfl, .inl (.inl hH), hx v hvj, q2 v F2 H2 fp2 Stp.refl sr2 rd⟩
      · exact q2.elim
    · exact q2.elim
  · exact q.elim
/-! ## name op= e, x[ix] op= e: whole numbers -/
def sAug (i : Nat) (g : Int → Int → Int) (f : Env → Res D) : Env → SRes := fun ρ => match slot ρ i with
  | some (.sh (.int x)) => sB (f ρ) fun d r => match d with
    | .int y => .nx (r.set i (some (.sh (.int (g x y)))))
    | _ => .no
  | _ => .no
theorem s_aug {i : Nat} {x : Str} {op : Operator} {g : Int → Int → Int} {pos' : Pos} {f : Env → Res D} (hN : X.N.Nodup) (hi : X.N[i]? = some x) (hx : Loc X.env.scope x) (hop : PIp X op (ipI g)) (he : PE X e (tV X.K cl E f)) (hk : i ∉ kp := by decide)
    (hf : X.fn x = true ∨ X.env.scope.names.lookup x = some .local := by first | exact .inl rfl | exact .inr rfl | assumption) : PS X (.AugAssign (.Name x pos') op e pos) (tS X.K cl E kp (sAug i g f)) := by
  refine PS.imp (ps_aug hN hi hx he hop hf) fun D σ H ⟨F, fp, ρ, sr, q⟩ => ?_
  unfold sAug at q
  split at q
  · rename_i x0 e0
    obtain ⟨v, fo, hv, ro, _⟩ := sr.env.get (slot_get e0)
    cases ro with
    | sh r0 =>
      cases r0
      refine ⟨.int x0, hv, ?_⟩
      refine wp_S sr q fun y dy ρ2 F2 H2 fp2 st2 sr2 ry q2 => ?_
      split at q2
      · cases ry
        obtain ⟨fp', s3, m⟩ := REnv.setD (i := i) sr2 (Rep.int (g x0 _))
        exact ⟨x0, _, rfl, rfl, q2 _ F2 H2 fp' (Stp.sub m) s3 (Kept.set hk)⟩
      · exact q2.elim
  · exact q.elim
/-! ## an expression that is only read, of a plain value -/
def scal' : D → Bool
  | .non => true
  | .bl _ => true
  | .int _ => true
  | .str _ => true
  | _ => false
def eView (ρ : Env) : Env := ρ.map fun x => x.map fun o => .sh (frz o)
def ePeek (f : Env → Res D) : Env → Res D := fun ρ => match f (eView ρ) with
  | .ok d _ => if scal' d = true then .ok d ρ else .no
  | _ => .no
def tPeek (f : Env → Res Bool) : Env → Res Bool := fun ρ => match f (eView ρ) with
  | .ok d _ => .ok d ρ
  | _ => .no
theorem REnv.view {K : PySem.W.Frag} {F F' H : Hp} (s : Same F F') : ∀ {σ : L2.St} {ρ : Env} {fp : List Addr}, (∀ a ∈ fp, F' a = H a) → REnv K cl F H σ ρ fp → REnv K cl F' H σ (eView ρ) []
  | _, _, _, _, .nil => .nil
  | _, _, _, h, .skip r => .skip (REnv.view s h r)
  | _, _, _, h, .cons a r => .cons (fp := []) (.sh (ROwn.frz s _ (fun x hx => h x (List.mem_append_left _ hx)) a)) (REnv.view s (fun x hx => h x (List.mem_append_right _ hx)) r)
theorem peek_sr {K : PySem.W.Frag} {F H : Hp} {fp : List Addr} {σ : L2.St} {ρ : Env} (sr : SR K cl F H σ ρ fp) : SR K cl (ice F H fp) H σ (eView ρ) [] :=
  ⟨ice_le sr.le, REnv.view (ice_up sr.le) (fun a ha => ice_in ha) sr.env, .nil⟩
theorem peek_back {K : PySem.W.Frag} {F H F' H' : Hp} {fp fp' : List Addr} {σ : L2.St} {ρ : Env} (sr : SR K cl F H σ ρ fp) (st : Stp (ice F H fp) H [] F' H' fp') : Stp F H fp F H' fp ∧ SR K cl F H' σ ρ fp := by
  have sm : Same H H' := fun a o h => st.fr a o h fun z => nomatch z
  exact ⟨⟨Same.refl _, fun a o h _ => sm a o h, fun a ha => .inl ha, fun a h => .inl h⟩, fun a o h => sm a o (sr.le a o h), REnv.mono (Same.refl _) (fun a _ u h => sm a u h) (fun _ _ h => h) sr.env, sr.nd⟩
theorem m_peek {f : Env → Res D} (h : PE X e (tV X.K cl E f)) : PE X e (tV X.K cl E (ePeek f)) := by
  refine PE.imp h fun σ H Q ⟨F, fp, ρ, sr, q⟩ => ?_
  refine ⟨ice F H fp, [], eView ρ, peek_sr sr, ?_⟩
  unfold ePeek at q
  cases e1 : f (eView ρ) with
  | ex c d r => rw [e1] at q; exact q.elim
  | no => rw [e1] at q; exact q.elim
  | ok d r =>
    simp only [e1] at q
    split at q
    · rename_i hd
      intro v F' H' fp' st sr' rv
      obtain ⟨b1, b2⟩ := peek_back sr st
      refine q v F H' fp b1 b2 ?_
      cases d with
      | non => cases rv; exact .non
      | bl k => cases rv; exact .bl k
      | int i => cases rv; exact .int i
      | str x => cases rv; exact .str x
      | _ => cases hd
    · exact q.elim
theorem mT_peek {f : Env → Res Bool} (h : PT X e (tT X.K cl E f)) : PT X e (tT X.K cl E (tPeek f)) := by
  refine PT.imp h fun σ H Q ⟨F, fp, ρ, sr, q⟩ => ?_
  refine ⟨ice F H fp, [], eView ρ, peek_sr sr, ?_⟩
  unfold tPeek at q
  cases e1 : f (eView ρ) with
  | ex c d r => rw [e1] at q; exact q.elim
  | no => rw [e1] at q; exact q.elim
  | ok d r =>
    rw [e1] at q
    intro v F' H' fp' st sr' rv
    obtain ⟨b1, b2⟩ := peek_back sr st
    exact q v F H' fp b1 b2 rv
/-! ## attributes of an owned instance -/
def putO (f : Str) (o : O) : List (Str × O) → List (Str × O)
  | [] => [(f, o)]
  | (g, x) :: r => if g = f then (g, o) :: r else (g, x) :: putO f o r
theorem OFds.length {K : PySem.W.Frag} {F H : Hp} : ∀ {vs : List (Str × V)} {fs : List (Str × O)} {fp : List Addr}, OFds K cl F H vs fs fp → vs.length = fs.length
  | _, _, _, .nil => rfl
  | _, _, _, .cons _ b => by rw [List.length_cons, List.length_cons, OFds.length b]
theorem OFds.put {K : PySem.W.Frag} {F H : Hp} {f : Str} {v : V} {d : D} (r : Rep K cl F v d) : ∀ {vs : List (Str × V)} {fs : List (Str × O)} {fp : List Addr}, OFds K cl F H vs fs fp → fp.Nodup → ∃ fp', OFds K cl F H (putF f v vs) (putO f (.sh d) fs) fp' ∧ fp'.Nodup ∧ ∀ x ∈ fp', x ∈ fp
  | _, _, _, .nil, _ => ⟨[], .cons (fp := []) (fq := []) (.sh r) .nil, .nil, fun _ h => h⟩
  | _, _, _, .cons (n := n) (fp := f1) (fq := f2) a b, nd => by
    have nn := List.nodup_append.mp nd
    by_cases hn : n = f
    · refine ⟨f2, ?_, nn.2.1, fun x hx => List.mem_append_right _ hx⟩
      unfold putF putO
      rw [if_pos hn, if_pos hn]
      exact .cons (fp := []) (.sh r) b
    · obtain ⟨fp', r', n', m⟩ := OFds.put r b nn.2.1
      refine ⟨f1 ++ fp', ?_, List.nodup_append.mpr ⟨nn.1, n', fun x hx y hy e => nn.2.2 x hx y (m y hy) e⟩, fun x hx => (List.mem_append.mp hx).elim (fun z => List.mem_append_left _ z) fun z => List.mem_append_right _ (m x z)⟩
      unfold putF putO
      rw [if_neg hn, if_neg hn]
      exact .cons a r'
def sFldS (cs : List Nat) (i : Nat) (n : Str) (f : Env → Res D) : Env → SRes := fun ρ => sB (f ρ) fun d r => match slot r i with
  | some (.ins c fs) => if c ∈ cs ∧ fs.length < 1000 then .nx (r.set i (some (.ins c (putO n (.sh d) fs)))) else .no
  | _ => .no
theorem s_fld (i : Nat) {n : Str} {cs : List Nat} {f : Env → Res D} {ob : Expr} {p2 : Pos} (ow : ∀ c, c ∈ cs → Cls X.K (cl c) ∧ NoAttr X.K (cl c) n) (ho : PE X ob (tVar i)) (he : PE X e (tV X.K cl E f)) (hs : swapsWith e (some (.Attribute ob n p2)) pos.line X.env = pure false := by rfl) :
    PS X (.Assign [.Attribute ob n p2] e pos) (tS X.K cl E kp (sFldS cs i n f)) := by
  refine PS.imp (ps_fld ho he hs) fun D σ H ⟨F, fp, ρ, sr, q⟩ => ?_
  refine wp_S sr q fun v d ρ1 F1 H1 fp1 st1 sr1 rv q1 => ?_
  split at q1
  · rename_i c fs e0
    split at q1
    · rename_i hc
      obtain ⟨v1, fo, fr, hv1, ro1, n1, dj, m, n2, re⟩ := sr1.env.hole sr1.nd (slot_get e0)
      cases ro1 with
      | @ins a dx _ vs _ fq hH hF hfs =>
        refine ⟨.ref a, hv1, a, cl c, dx, vs, rfl, hH, (ow c hc.1).1, (ow c hc.1).2, by rw [hfs.length]; exact hc.2, ?_⟩
        have n1' := List.nodup_cons.mp n1
        obtain ⟨ft, rt, nt, mt⟩ := OFds.put (f := n) rv hfs n1'.2
        have aft : a ∉ ft := fun z => n1'.1 (mt a z)
        have afr : a ∉ fr := dj a List.mem_cons_self
        have un : ∀ x, x ≠ a → upd H1 a (.ins (cl c) dx (putF n v vs)) x = H1 x := fun x hx => upd_ne hx
        have re' : REnv X.K cl F1 (upd H1 a (.ins (cl c) dx (putF n v vs))) σ (ρ1.set i none) fr := REnv.mono (Same.refl _) (fun x hx w hw => by rw [un x fun z => afr (z ▸ hx)]; exact hw) (fun _ _ h => h) re
        have rt' : ROwn X.K cl F1 (upd H1 a (.ins (cl c) dx (putF n v vs))) (.ref a) (.ins c (putO n (.sh d) fs)) (a :: ft) :=
          .ins upd_same hF (OFds.mono (Same.refl _) _ (fun x hx w hw => by rw [un x fun z => aft (z ▸ hx)]; exact hw) (fun _ _ h => h) rt)
        have dft : ∀ x ∈ a :: ft, x ∉ fr := fun x hx hy => by
          rcases List.mem_cons.mp hx with z | z
          · exact afr (z ▸ hy)
          · exact dj x (List.mem_cons_of_mem _ (mt x z)) hy
        obtain ⟨fp', r2, n3, m3⟩ := REnv.setA (i := i) re' rt' (List.nodup_append.mpr ⟨List.nodup_cons.mpr ⟨aft, nt⟩, n2, fun x hx y hy e => dft x hx (e ▸ hy)⟩)
        rw [setSelf hv1, List.set_set] at r2
        refine q1 σ F1 _ fp' ⟨Same.refl _, fun x w hw mx => ?_, fun x hx => .inl ?_, fun x hx => .inl hx⟩ ⟨fun x w hw => ?_, r2, n3⟩ Kept.refl
        · rw [un x fun z => by
            subst z
            exact mx ((m x).mpr (.inl List.mem_cons_self))]
          exact hw
        · rcases List.mem_append.mp (m3 x hx) with z | z
          · rcases List.mem_cons.mp z with y | y
            · exact (m x).mpr (.inl (y ▸ List.mem_cons_self))
            · exact (m x).mpr (.inl (List.mem_cons_of_mem _ (mt x y)))
          · exact (m x).mpr (.inr z)
        · rw [un x fun z => by subst z; rw [hF] at hw; cases hw]
          exact sr1.le x w hw
    · exact q1.elim
  · exact q1.elim
/-! ## C(..) -/
def makeA (c : Nat) (Φ : List O → FRes) (dds ds : List D) (r : Env) : Res O := match Φ (.ins c [] :: (ds ++ dds).map O.sh) with
  | .ok (.sh .non) (o :: _) => .ok o r
  | .ex c' d _ => .ex c' d r
  | _ => .no
def eMake (c : Nat) (Φ : List O → FRes) (dds : List D) (f : Env → Res (List D)) : Env → Res O := fun ρ => (f ρ).bind fun ds r => makeA c Φ dds ds r
theorem m_make {CX : CXT} {k n ci : Nat} {g : Addr} {fd : FuncData} {ps : List Str} {Φ : List O → FRes} {dvs : List V} {dds : List D} {ds : List Value} {x : Str} {p : Pos} {f : Env → Res (List D)} (M : Mk X.K (cl ci) g) (Fg : FnOk X.prog X.w X.K X.mg X.base CX k g fd ps (spF X.K cl n Φ)) (hr : Room (k + 1) X.A) (hg : Gl X x)
    (hm : X.mg x = some (.ref (cl ci))) (hb : Binds X.K fd ps ds) (hd : Vals dvs ds) (hx : Passes CX X E) (hn : ∀ os, Φ os ≠ .no → os.length = n) (hD : ∀ F, Reps X.K cl F dvs dds) (ha : PA X (e :: es) (tA X.K cl E f))
    (hdb : (x == ("__debug__" : Str)) = false := by decide) (he : starEach (e :: es) X.env = (false, eval e X.env) :: starEach es X.env := by rfl) (hpl : (backTo pos (starEach es X.env)).any (·.1) = false := by rfl) :
    PE X (.Call (.Name x p) (e :: es) [] pos) (tO X.K cl E (eMake ci Φ dds f)) := by
  refine PE.imp (pe_make M Fg hr hg hm hb hd hx ha hdb he hpl) fun σ H Q ⟨F, fp, ρ, sr, q⟩ => ?_
  refine wp_bindO sr q fun vs ds' r F1 H1 fp1 st1 sr1 ra q1 => ?_
  intro x dx hx0 hdx0 hne
  have g1 := Grow.newO (u := .own x) sr1.le hdx0
  have hx1 : upd H1 dx (.own x) x = none := by rw [upd_ne (Ne.symm hne)]; exact hx0
  have g2 := Grow.newO (u := .ins (cl ci) dx []) g1.fh hx1
  have g := g1.trans g2
  have sr2 := sr1.grow g
  have nFx : F1 x = none := sr1.le.free hx0
  have xfp : x ∉ fp1 := fun z => by
    obtain ⟨u, hu⟩ := (sr1.env.there x z).2
    rw [hx0] at hu
    cases hu
  have rall : Reps X.K cl F1 (vs ++ dvs) (ds' ++ dds) := ra.append (hD F1)
  have ro : ROwns X.K cl F1 (upd (upd H1 dx (.own x)) x (.ins (cl ci) dx [])) (.ref x :: (vs ++ dvs)) (.ins ci [] :: (ds' ++ dds).map O.sh) [x] :=
    .cons (fp := [x]) (fq := []) (.ins upd_same nFx .nil) (ROwns.of_reps rall)
  unfold makeA at q1
  have stp2 : Stp F1 H1 fp1 F1 (upd (upd H1 dx (.own x)) x (.ins (cl ci) dx [])) (x :: fp1) :=
    ⟨g.le, fun a o h _ => g.leH a o h, fun a ha => (List.mem_cons.mp ha).elim (fun z => .inr (z ▸ hx0)) .inl, fun a h => .inl h⟩
  refine ⟨F1, .ins ci [] :: (ds' ++ dds).map O.sh, [x], ?_, sr2.le, ro, by simp, ?_⟩
  · refine hn _ fun z => ?_
    simp only [z] at q1
    exact q1.elim
  · cases e2 : Φ (.ins ci [] :: (ds' ++ dds).map O.sh) with
    | no => simp only [e2] at q1; exact q1.elim
    | ok o os' =>
      simp only [e2] at q1
      intro v F' H' fv fa' st sm ro' rv nd
      have nn := List.nodup_append.mp nd
      cases ro' with
      | cons ra1 rb1 =>
        rename_i o1 os1 f1 f2
        cases o with
        | sh d =>
          cases d with
          | non =>
            cases rv with
            | sh rv0 =>
              cases rv0
              refine ⟨rfl, ?_⟩
              have djx : ∀ y ∈ fp1, y ∉ [x] := fun y hy hz => xfp ((List.mem_singleton.mp hz) ▸ hy)
              have re' := st.env sr2.env djx
              have ap := st.apart (fun y hy => (sr2.env.there y hy).2) djx
              have nn2 := List.nodup_append.mp nn.2.1
              refine q1 (.ref x) F' H' f1 fp1 ?_ sm re' ra1 (List.nodup_append.mpr ⟨nn2.1, sr1.nd, fun y hy z hz e => ap z hz (List.mem_append_right _ (List.mem_append_left _ (e ▸ hy)))⟩)
              refine stp2.trans ?_
              have s3 := ((st.more fp1).base (fq := x :: fp1) fun y hy => by
                rcases List.mem_append.mp hy with z | z
                · exact List.mem_cons_of_mem _ z
                · rw [List.mem_singleton.mp z]; exact List.mem_cons_self)
              exact s3.weaken fun y hy => (List.mem_append.mp hy).elim (fun z => List.mem_append_right _ (List.mem_append_right _ (List.mem_append_left _ z))) fun z => List.mem_append_left _ z
          | _ => exact q1.elim
        | _ => exact q1.elim
    | ex c d os' =>
      simp only [e2] at q1
      intro F' H' fa' us dd st sm ro' nd rf hx'
      have djx : ∀ y ∈ fp1, y ∉ [x] := fun y hy hz => xfp ((List.mem_singleton.mp hz) ▸ hy)
      have re' := st.env sr2.env djx
      have ap := st.apart (fun y hy => (sr2.env.there y hy).2) djx
      refine q1 F' H' fp1 us dd ?_ ⟨sm, re', sr1.nd⟩ rf hx'
      refine stp2.trans ?_
      have s3 := ((st.more fp1).base (fq := x :: fp1) fun y hy => by
        rcases List.mem_append.mp hy with z | z
        · exact List.mem_cons_of_mem _ z
        · rw [List.mem_singleton.mp z]; exact List.mem_cons_self)
      exact s3.weaken fun y hy => List.mem_append_left _ hy
/-! ## a, b = x, y -/
/-- several owned values, from the left -/
def wpOs (K : PySem.W.Frag) (cl : Nat → Addr) (E : XK) (r : Res (List O)) (F H : Hp) (fp : List Addr) (σ : L2.St) (Q : List V → Hp → Prop) : Prop :=
  match r with
  | .ok os ρ => ∀ vs F' H' fv fp', Stp F H fp F' H' (fv ++ fp') → Same F' H' → REnv K cl F' H' σ ρ fp' → ROwns K cl F' H' vs os fv → (fv ++ fp').Nodup → Q vs H'
  | .ex c fs ρ => exH K cl E F H fp σ c fs ρ
  | .no => False
def tOs (K : PySem.W.Frag) (cl : Nat → Addr) (E : XK) (f : Env → Res (List O)) : TA := fun σ H Q => ∃ F fp ρ, SR K cl F H σ ρ fp ∧ wpOs K cl E (f ρ) F H fp σ Q
def oN : Env → Res (List O) := fun ρ => .ok [] ρ
def oC (f : Env → Res O) (g : Env → Res (List O)) : Env → Res (List O) := fun ρ => (f ρ).bind fun x r => (g r).bind fun xs r' => .ok (x :: xs) r'
theorem o_nil : PA X [] (tOs X.K cl E oN) := PA.imp pa_nil fun σ H Q ⟨F, fp, ρ, sr, q⟩ => q [] F H [] fp Stp.refl sr.le sr.env .nil sr.nd
theorem o_cons {f : Env → Res O} {g : Env → Res (List O)} (ha : PE X e (tO X.K cl E f)) (hr : PA X es (tOs X.K cl E g)) (hs : starEach (e :: es) X.env = (false, eval e X.env) :: starEach es X.env := by rfl) : PA X (e :: es) (tOs X.K cl E (oC f g)) := by
  refine PA.imp (pa_cons ha hr hs) fun σ H Q ⟨F, fp, ρ, sr, q⟩ => ?_
  refine ⟨F, fp, ρ, sr, ?_⟩
  unfold oC at q
  cases e1 : f ρ with
  | no => rw [e1] at q; exact q.elim
  | ex c d r => rw [e1] at q; exact q
  | ok o r =>
    rw [e1] at q
    intro v F1 H1 fv fp1 st1 sm1 re1 ro1 n1
    have nn1 := List.nodup_append.mp n1
    have d1 : ∀ x ∈ fv, x ∉ fp1 := fun x hx hy => nn1.2.2 x hx x hy rfl
    refine ⟨F1, fp1, r, ⟨sm1, re1, nn1.2.1⟩, ?_⟩
    cases e2 : g r with
    | no => rw [Res.bind_ok, e2] at q; exact q.elim
    | ex c d r2 =>
      rw [Res.bind_ok, e2] at q
      intro F' H' fp' us dd st sr' rf hx
      refine q F' H' fp' us dd (st1.trans ?_) sr' rf hx
      exact (st.more fv).weaken fun x hx => List.mem_append_right _ hx
    | ok os r2 =>
      rw [Res.bind_ok, e2] at q
      intro vs F2 H2 fw fp2 st2 sm2 re2 ro2 n2
      have nn2 := List.nodup_append.mp n2
      have ap := st2.apart (fun x hx => (ROwn.there o ro1 x hx).2) d1
      refine q (v :: vs) F2 H2 (fv ++ fw) fp2 ?_ sm2 re2 (.cons (st2.own ro1 d1) ro2) ?_
      · rw [List.append_assoc]
        exact st1.trans (st2.more fv)
      · rw [List.append_assoc]
        exact List.nodup_append.mpr ⟨nn1.1, n2, fun x hx y hy e => ap x hx (e ▸ hy)⟩
theorem wp_SOs {F H : Hp} {fp : List Addr} {σ : L2.St} {ρ : Env} {f : Env → Res (List O)} {k : List O → Env → SRes} {D : Ends} {Q1 : List V → Hp → Prop} (sr : SR X.K cl F H σ ρ fp) (h : wpS X.K cl E kp (sB (f ρ) k) F H fp σ D)
    (n : ∀ vs os ρ1 F1 H1 fv fp1, Stp F H fp F1 H1 (fv ++ fp1) → Same F1 H1 → REnv X.K cl F1 H1 σ ρ1 fp1 → ROwns X.K cl F1 H1 vs os fv → (fv ++ fp1).Nodup → wpS X.K cl E kp (k os ρ1) F1 H1 (fv ++ fp1) σ D → Q1 vs H1) : tOs X.K cl E f σ H Q1 := by
  refine ⟨F, fp, ρ, sr, ?_⟩
  cases e : f ρ with
  | ok a r =>
    rw [e] at h
    exact fun v F' H' fv fp' st sm re ro nd => n v a r F' H' fv fp' st sm re ro nd (wpS.trans st Kept.refl h)
  | ex c fs r =>
    rw [e] at h
    exact fun F' H' fp' vs dd st sr r e => h σ F' H' fp' vs dd st sr Kept.refl r e
  | no =>
    rw [e] at h
    exact h.elim
def sPar (is : List Nat) (f : Env → Res (List O)) : Env → SRes := fun ρ => sB (f ρ) fun os r => match is, os with
  | [i, j], [o, p] => .nx ((r.set i (some o)).set j (some p))
  | [i, j, l], [o, p, s] => .nx (((r.set i (some o)).set j (some p)).set l (some s))
  | _, _ => .no
theorem owns_one {K : PySem.W.Frag} {F H : Hp} {vs : List V} {o : O} {os : List O} {fv : List Addr} (h : ROwns K cl F H vs (o :: os) fv) : ∃ v us f1 f2, vs = v :: us ∧ ROwn K cl F H v o f1 ∧ ROwns K cl F H us os f2 ∧ fv = f1 ++ f2 := by
  cases h with
  | cons a b => exact ⟨_, _, _, _, rfl, a, b, rfl⟩
theorem owns_nil {K : PySem.W.Frag} {F H : Hp} {vs : List V} {fv : List Addr} (h : ROwns K cl F H vs [] fv) : vs = [] ∧ fv = [] := by
  cases h
  exact ⟨rfl, rfl⟩
theorem s_par {i j : Nat} {x y : Str} {f : Env → Res (List O)} {px py pt : Pos} {kt k2 pt2} (hc : X.calm = true) (hN : X.N.Nodup) (hi : X.N[i]? = some x) (hj : X.N[j]? = some y)
    (hx : X.env.scope.names.lookup x = some .local) (hy : X.env.scope.names.lookup y = some .local) (ha : PA X [a, b] (tOs X.K cl E f))
    (hw : swappedStores [.Tuple [.Name x px, .Name y py] kt pt] (.Tuple [a, b] k2 pt2) X.env = pure (some [x, y])) (hij : i ≠ j := by decide) (hk : i ∉ kp ∧ j ∉ kp := by decide)
    (hs : swapsWithSole [.Tuple [.Name x px, .Name y py] kt pt] (.Tuple [a, b] k2 pt2) pos.line X.env = pure false := by rfl) :
    PS X (.Assign [.Tuple [.Name x px, .Name y py] kt pt] (.Tuple [a, b] k2 pt2) pos) (tS X.K cl E kp (sPar [i, j] f)) := by
  refine PS.imp (ps_par hc hN hi hj hij hx hy ha hw hs) fun D σ H ⟨F, fp, ρ, sr, q⟩ => ?_
  refine wp_SOs sr q fun vs os ρ1 F1 H1 fv fp1 st1 sm re ro n q1 => ?_
  split at q1
  · rename_i i' j' o p e1 
    cases e1
    obtain ⟨v, us1, f1, g1, rfl, r1, ro1, rfl⟩ := owns_one ro
    obtain ⟨w, us2, f3, g2, rfl, r2, ro2, rfl⟩ := owns_one ro1
    obtain ⟨rfl, rfl⟩ := owns_nil ro2
    rw [List.append_nil] at n q1
    rw [List.append_assoc] at n q1
    have n1 := List.nodup_append.mp n
    have n2 := List.nodup_append.mp n1.2.1
    obtain ⟨fp2, e2, nd2, m2⟩ := REnv.setA (i := i) re r1 (List.nodup_append.mpr ⟨n1.1, n2.2.1, fun x hx y hy e => n1.2.2 x hx y (List.mem_append_right _ hy) e⟩)
    obtain ⟨fp3, e3, nd3, m3⟩ := REnv.setA (i := j) e2 r2 (List.nodup_append.mpr ⟨n2.1, nd2, fun x hx y hy e => by
      subst e
      rcases List.mem_append.mp (m2 x hy) with z | z
      · exact n1.2.2 x z x (List.mem_append_left _ hx) rfl
      · exact n2.2.2 x hx x z rfl⟩)
    refine ⟨v, w, rfl, q1 _ F1 H1 fp3 (Stp.sub fun x hx => ?_) ⟨sm, e3, nd3⟩ ((Kept.set hk.1).trans (Kept.set hk.2))⟩
    rcases List.mem_append.mp (m3 x hx) with z | z
    · exact List.mem_append_right _ (List.mem_append_left _ z)
    · rcases List.mem_append.mp (m2 x z) with z | z
      · exact List.mem_append_left _ z
      · exact List.mem_append_right _ (List.mem_append_right _ z)
  · rename_i e1
    cases e1
  · exact q1.elim
theorem s_par3 {i j l : Nat} {x y z : Str} {f : Env → Res (List O)} {px py pz pt : Pos} {kt k2 pt2} (hc : X.calm = true) (hN : X.N.Nodup) (hi : X.N[i]? = some x) (hj : X.N[j]? = some y) (hl : X.N[l]? = some z)
    (hx : X.env.scope.names.lookup x = some .local) (hy : X.env.scope.names.lookup y = some .local) (hz : X.env.scope.names.lookup z = some .local) (ha : PA X [a, b, c] (tOs X.K cl E f))
    (hw : swappedStores [.Tuple [.Name x px, .Name y py, .Name z pz] kt pt] (.Tuple [a, b, c] k2 pt2) X.env = pure (some [x, y, z])) (hij : i ≠ j ∧ i ≠ l ∧ j ≠ l := by decide) (hk : i ∉ kp ∧ j ∉ kp ∧ l ∉ kp := by decide)
    (hs : swapsWithSole [.Tuple [.Name x px, .Name y py, .Name z pz] kt pt] (.Tuple [a, b, c] k2 pt2) pos.line X.env = pure false := by rfl) :
    PS X (.Assign [.Tuple [.Name x px, .Name y py, .Name z pz] kt pt] (.Tuple [a, b, c] k2 pt2) pos) (tS X.K cl E kp (sPar [i, j, l] f)) := by
  refine PS.imp (ps_par3 hc hN hi hj hl hij.1 hij.2.1 hij.2.2 hx hy hz ha hw hs) fun D σ H ⟨F, fp, ρ, sr, q⟩ => ?_
  refine wp_SOs sr q fun vs os ρ1 F1 H1 fv fp1 st1 sm re ro n q1 => ?_
  split at q1
  · rename_i e1
    cases e1
  · rename_i i' j' l' o p s e1
    cases e1
    obtain ⟨v, us1, f1, g1, rfl, r1, ro1, rfl⟩ := owns_one ro
    obtain ⟨w, us2, f3, g2, rfl, r2, ro2, rfl⟩ := owns_one ro1
    obtain ⟨t, us3, f5, g3, rfl, r3, ro3, rfl⟩ := owns_one ro2
    obtain ⟨rfl, rfl⟩ := owns_nil ro3
    rw [List.append_nil, List.append_assoc, List.append_assoc] at n q1
    have n1 := List.nodup_append.mp n
    have n2 := List.nodup_append.mp n1.2.1
    have n3 := List.nodup_append.mp n2.2.1
    obtain ⟨fp2, e2, nd2, m2⟩ := REnv.setA (i := i) re r1 (List.nodup_append.mpr ⟨n1.1, n3.2.1, fun x hx y hy e => n1.2.2 x hx y (List.mem_append_right _ (List.mem_append_right _ hy)) e⟩)
    obtain ⟨fp3, e3, nd3, m3⟩ := REnv.setA (i := j) e2 r2 (List.nodup_append.mpr ⟨n2.1, nd2, fun x hx y hy e => by
      subst e
      rcases List.mem_append.mp (m2 x hy) with z | z
      · exact n1.2.2 x z x (List.mem_append_left _ hx) rfl
      · exact n2.2.2 x hx x (List.mem_append_right _ z) rfl⟩)
    obtain ⟨fp4, e4, nd4, m4⟩ := REnv.setA (i := l) e3 r3 (List.nodup_append.mpr ⟨n3.1, nd3, fun x hx y hy e => by
      subst e
      rcases List.mem_append.mp (m3 x hy) with z | z
      · exact n2.2.2 x z x (List.mem_append_left _ hx) rfl
      · rcases List.mem_append.mp (m2 x z) with z | z
        · exact n1.2.2 x z x (List.mem_append_right _ (List.mem_append_left _ hx)) rfl
        · exact n3.2.2 x hx x z rfl⟩)
    refine ⟨v, w, t, rfl, q1 _ F1 H1 fp4 (Stp.sub fun x hx => ?_) ⟨sm, e4, nd4⟩ (((Kept.set hk.1).trans (Kept.set hk.2.1)).trans (Kept.set hk.2.2))⟩
    rcases List.mem_append.mp (m4 x hx) with z | z
    · exact List.mem_append_right _ (List.mem_append_right _ (List.mem_append_left _ z))
    · rcases List.mem_append.mp (m3 x z) with z | z
      · exact List.mem_append_right _ (List.mem_append_left _ z)
      · rcases List.mem_append.mp (m2 x z) with z | z
        · exact List.mem_append_left _ z
        · exact List.mem_append_right _ (List.mem_append_right _ (List.mem_append_right _ z))
  · exact q1.elim
end
end Tk

set_option Elab.async false
set_option linter.all false
set_option maxRecDepth 100000
set_option maxHeartbeats 4000000
namespace Tk
open PySem PySem.Spec PyProof.Rows L2
section
variable {K : PySem.W.Frag} {cl : Nat → Addr} {F F' H : Hp}
/-! ## lists, tuples, ints by data -/
theorem sqL_lst {a : Addr} {xs : List V} (sm : Same F H) (h : F a = some (.lst xs)) : SqL K H a xs := .inl (.inl (sm _ _ h))
theorem Rep.seqL {v : V} {xs : List D} (sm : Same F H) (r : Rep K cl F v (.lst xs)) : ∃ a vs, v = .ref a ∧ H a = some (.lst vs) ∧ Reps K cl F vs xs := by
  cases r with
  | lst a b => exact ⟨_, _, rfl, sm _ _ a, b⟩
theorem Rep.seqT {v : V} {xs : List D} (sm : Same F H) (r : Rep K cl F v (.tup xs)) : ∃ a vs, v = .ref a ∧ SqT K H a vs ∧ Reps K cl F vs xs := by
  cases r with
  | tup a b => exact ⟨_, _, rfl, Tk.seqT sm a, b⟩
theorem Rep.seqS {v : V} {xs : List D} (sm : Same F H) (r : Rep K cl F v (.scr xs)) : ∃ a vs, v = .ref a ∧ SqL K H a vs ∧ Reps K cl F vs xs := by
  cases r with
  | scr a b => exact ⟨_, _, rfl, sm.seq a, b⟩
theorem Rep.int_inv {v : V} {i : Int} (r : Rep K cl F v (.int i)) : v = .int i := by cases r; rfl
theorem Reps.nil_iff {vs : List V} {ds : List D} (h : Reps K cl F vs ds) : vs = [] ↔ ds = [] := by
  cases h <;> simp
theorem Reps.one' {vs : List V} {d : D} (h : Reps K cl F vs [d]) : ∃ v, vs = [v] ∧ Rep K cl F v d := by
  cases h with
  | cons a b => cases b; exact ⟨_, rfl, a⟩
theorem Reps.flatten_rep {vs : List V} {ds : List D} (h : Reps K cl F vs ds) : ∀ n : Nat, Reps K cl F (List.replicate n vs).flatten (List.replicate n ds).flatten
  | 0 => by simp; exact .nil
  | n + 1 => by
    rw [List.replicate_succ, List.replicate_succ, List.flatten_cons, List.flatten_cons]
    exact h.append (h.flatten_rep n)
def ints? : List D → Option (List Int)
  | [] => some []
  | .int i :: ds => (ints? ds).map (i :: ·)
  | _ :: _ => none
theorem ints_ok : ∀ {ds : List D} {is : List Int} {vs : List V}, ints? ds = some is → Reps K cl F vs ds → vs = is.map V.int
  | [], is, vs, h, r => by cases h; cases r; rfl
  | d :: ds, is, vs, h, r => by
    cases d with
    | int i =>
      cases r with
      | cons a b =>
        cases a
        cases e : ints? ds with
        | none => simp [ints?, e] at h
        | some js =>
          simp [ints?, e] at h
          subst h
          rw [ints_ok e b]
          rfl
    | _ => simp [ints?] at h
def bls? : List D → Option (List Bool)
  | [] => some []
  | .bl i :: ds => (bls? ds).map (i :: ·)
  | _ :: _ => none
theorem bls_ok : ∀ {ds : List D} {is : List Bool} {vs : List V}, bls? ds = some is → Reps K cl F vs ds → vs = is.map V.bl
  | [], is, vs, h, r => by cases h; cases r; rfl
  | d :: ds, is, vs, h, r => by
    cases d with
    | bl i =>
      cases r with
      | cons a b =>
        cases a
        cases e : bls? ds with
        | none => simp [bls?, e] at h
        | some js =>
          simp [bls?, e] at h
          subst h
          rw [bls_ok e b]
          rfl
    | _ => simp [bls?] at h
end
/-! ## + - * // % ** -/
def addD : D → D → Option O
  | .int i, .int j => some (.sh (.int (i + j)))
  | .lst xs, .lst ys => if xs.length + ys.length ≤ sizeLine then some (.lst ((xs ++ ys).map O.sh)) else none
  | .tup xs, .tup ys => if xs.length + ys.length ≤ sizeLine then some (.sh (.tup (xs ++ ys))) else none
  | _, _ => none
def rAddA (K : PySem.W.Frag) : R2 := fun x y H Q => (L2.rI0 (fun i j => .int (i + j))) x y H Q ∨ rCatA K x y H Q ∨ rCat x y H Q
section
variable {X : Cx} {cl : Nat → Addr}
theorem op_addA : OpR X (binaryOp .Add) (rAddA X.K) := op_add.or (op_catA.or op_cat)
theorem pr_add {K : PySem.W.Frag} : Pr2 K cl (rAddA K) addD := by
  intro F H x y dx dy ob Q sm rx ry e q
  unfold addD at e
  split at e
  · cases e
    cases rx; cases ry
    exact .inl ⟨_, _, rfl, rfl, q.sh sm (.int _)⟩
  · split at e
    · rename_i xs ys hl
      cases e
      obtain ⟨a, vs, rfl, ha, ra⟩ := rx.seqL sm
      obtain ⟨b, us, rfl, hb, rb⟩ := ry.seqL sm
      refine .inr (.inr ⟨a, b, vs, us, rfl, rfl, ha, hb, by rw [ra.length, rb.length]; exact hl, fun p hp => ?_⟩)
      exact q.lstD sm (ra.append rb) p hp
    · cases e
  · split at e
    · rename_i xs ys hl
      cases e
      obtain ⟨a, vs, rfl, ha, ra⟩ := rx.seqT sm
      obtain ⟨b, us, rfl, hb, rb⟩ := ry.seqT sm
      refine .inr (.inl ⟨a, b, vs, us, rfl, rfl, ha, hb, by rw [ra.length, rb.length]; exact hl, fun z => ?_, fun _ z => ?_, fun _ _ p hp => ?_⟩)
      · subst z
        cases ra
        exact q.sh sm ry
      · subst z
        cases rb
        rw [List.append_nil] at q
        exact q.sh sm rx
      · exact q.tup sm (ra.append rb) p hp
    · cases e
  · cases e
def iiD (C : Int → Int → Bool) (g : Int → Int → Int) : D → D → Option O
  | .int i, .int j => if C i j = true then some (.sh (.int (g i j))) else none
  | _, _ => none
theorem pr_ii {K : PySem.W.Frag} {C : Int → Int → Bool} {C' : Int → Int → Prop} {g : Int → Int → Int} (h : ∀ i j, C i j = true → C' i j) : Pr2 K cl (L2.rI C' fun i j => .int (g i j)) (iiD C g) := by
  intro F H x y dx dy ob Q sm rx ry e q
  unfold iiD at e
  split at e
  · split at e
    · rename_i hc
      cases e
      cases rx; cases ry
      exact ⟨_, _, rfl, rfl, h _ _ hc, q.sh sm (.int _)⟩
    · cases e
  · cases e
def subD : D → D → Option O
  | .int i, .int j => some (.sh (.int (i - j)))
  | _, _ => none
theorem pr_sub {K : PySem.W.Frag} : Pr2 K cl (L2.rI0 fun i j => .int (i - j)) subD := by
  intro F H x y dx dy ob Q sm rx ry e q
  unfold subD at e
  split at e
  · cases e
    cases rx; cases ry
    exact ⟨_, _, rfl, rfl, q.sh sm (.int _)⟩
  · cases e
def modC (_ j : Int) : Bool := decide (0 < j)
theorem pr_mod {K : PySem.W.Frag} : Pr2 K cl (L2.rI (fun _ j => 0 < j) fun i j => .int (i % j)) (iiD modC (· % ·)) := pr_ii fun i j h => by simpa [modC] using h
def divC (_ j : Int) : Bool := decide (0 < j ∧ j.natAbs.log2 < 9000)
theorem pr_div {K : PySem.W.Frag} : Pr2 K cl (L2.rI CDivW fun i j => .int (i / j)) (iiD divC (· / ·)) := pr_ii fun i j h => by simpa [divC, CDivW] using h
def powC (i j : Int) : Bool := decide (0 ≤ j ∧ j ≤ 1000000 ∧ i.natAbs < 2 ^ 64)
theorem pr_pow {K : PySem.W.Frag} : Pr2 K cl (L2.rI CPow fun i j => .int (i ^ j.toNat)) (iiD powC fun i j => i ^ j.toNat) := pr_ii fun i j h => by simpa [powC, CPow] using h
/-- tuple * int -/
def rRepA (K : PySem.W.Frag) : R2 := fun x y H Q => ∃ l k xs, x = .ref l ∧ y = .int k ∧ SqT K H l xs ∧ xs ≠ [] ∧ -(2 ^ 63) ≤ k ∧ k ≤ 1000 ∧ xs.length ≤ 1000 ∧ (k = 1 → Q (.ref l) H) ∧ (k ≠ 1 → ∀ p, H p = none → Q (.ref p) (upd H p (.tup (List.replicate k.toNat xs).flatten)))
theorem op_repA : OpR X (binaryOp .Mult) (rRepA X.K) := by
  intro pins s σ H x y v u Q I rx ry h
  obtain ⟨l, k, xs, rfl, rfl, hT, hne, h1, h2, hz, q1, q⟩ := h
  by_cases hk2 : 2 ≤ k
  · exact op_repT pins s σ H _ _ v u Q I rx ry ⟨l, k, xs, rfl, rfl, hT, hne, hk2, h2, hz, q (by omega)⟩
  cases rx
  obtain ⟨t, rfl⟩ := ry
  obtain ⟨its, r, ⟨⟨cls, dd, data, sl⟩, ho, hc, n, hd⟩, hs⟩ := I.tuple hT
  simp only at hc hd
  subst hc hd
  have hle : its.length = xs.length := r.length.symm
  have hn : its ≠ [] := fun e => hne (by
    rw [e] at hle
    exact List.eq_nil_of_length_eq_zero hle.symm)
  have hi : its.toArray.isEmpty = false := by
    cases its with
    | nil => exact absurd rfl hn
    | cons a b => rfl
  by_cases hk1 : k = 1
  · subst hk1
    refine wpAny_binaryOp_repeat_ref (T := "tuple") (U := "int") (by decide) ⟨_, ho, rfl⟩ (fun s' => typeIs_int s' 1 t) noFill_tuple_mul F.fills_int_mul F.slot_int_rmul repeat_tuple F.slot_int_index.lookup
      (call_meets F.slot_int_rmul (typeIs_int s 1 t) F.entry_int_rmul (F.args_int_rmul_2 _ _) (int_rmul_tuple 1 t l its.toArray n dd sl)
        ⟨ho, rfl, ⟨_, ho, rfl⟩, call_meets F.slot_tuple_mul ⟨_, ho, rfl⟩ F.entry_tuple_mul (F.args_tuple_mul_2 _ _) (tuple_mulOne l its.toArray n sl t dd) ⟨ho, ?_⟩⟩)
    exact ⟨.ref l, H, I, rfl, q1 rfl⟩
  have c0 : (decide (k < -(2 ^ 63)) || decide (k ≥ 2 ^ 63)) = false := by
    rw [decide_eq_false (by omega), decide_eq_false (by omega)] <;> rfl
  have c1 : (its.toArray.isEmpty || k == 1) = false := by
    rw [hi, Bool.false_or]
    exact beq_eq_false_iff_ne.mpr hk1
  have c2 : (decide (k ≤ 0) || its.toArray.isEmpty) = true := by
    rw [hi, Bool.or_false]
    exact decide_eq_true (by omega)
  refine wpAny_binaryOp_repeat_ref (T := "tuple") (U := "int") (by decide) ⟨_, ho, rfl⟩ (fun s' => typeIs_int s' k t) noFill_tuple_mul F.fills_int_mul F.slot_int_rmul repeat_tuple F.slot_int_index.lookup
    (call_meets F.slot_int_rmul (typeIs_int s k t) F.entry_int_rmul (F.args_int_rmul_2 _ _) (int_rmul_tuple k t l its.toArray n dd sl)
      ⟨ho, rfl, ⟨_, ho, rfl⟩, call_meets F.slot_tuple_mul ⟨_, ho, rfl⟩ F.entry_tuple_mul (F.args_tuple_mul_2 _ _) (tuple_mulNone l its.toArray n dd sl k t c0 c1 c2) ⟨ho, ?_⟩⟩)
  have e0 : k.toNat = 0 := by omega
  have q' := q hk1
  rw [e0] at q'
  refine ⟨.ref s.heap.objs.size, _, I.laid (t' := s.toks) (o := .tup []) (fun b ob q => Heap.get?_push_of_some _ q) (Nat.le_refl _) ?_, rfl, q' _ (I.hok.fresh (Nat.le_refl _))⟩
  exact ⟨Nat.zero_le _, [], .nil, IsTup.new _ _⟩
def mulD : D → D → Option O
  | .int i, .int j => if i.natAbs.log2 + j.natAbs.log2 < 1000000 then some (.sh (.int (i * j))) else none
  | .lst xs, .int k => if k.natAbs < 2 ^ 63 ∧ xs.length * k.toNat ≤ sizeLine then some (.lst ((List.replicate k.toNat xs).flatten.map O.sh)) else none
  | .tup xs, .int k => if xs ≠ [] ∧ k.natAbs ≤ 1000 ∧ xs.length ≤ 1000 then some (.sh (.tup (List.replicate k.toNat xs).flatten)) else none
  | _, _ => none
def rMulA (K : PySem.W.Frag) : R2 := fun x y H Q => (L2.rI CMulW (fun i j => .int (i * j))) x y H Q ∨ rRepA K x y H Q ∨ rRep x y H Q
theorem op_mulA : OpR X (binaryOp .Mult) (rMulA X.K) := op_mulW.or (op_repA.or op_rep)
theorem pr_mul {K : PySem.W.Frag} : Pr2 K cl (rMulA K) mulD := by
  intro F H x y dx dy ob Q sm rx ry e q
  unfold mulD at e
  split at e
  · split at e
    · rename_i hc
      cases e
      cases rx; cases ry
      exact .inl ⟨_, _, rfl, rfl, hc, q.sh sm (.int _)⟩
    · cases e
  · split at e
    · rename_i hl
      cases e
      obtain ⟨a, vs, rfl, ha, ra⟩ := rx.seqL sm
      cases ry
      exact .inr (.inr ⟨a, _, vs, rfl, rfl, ha, by have := hl.1; omega, by have := hl.1; omega, by rw [ra.length]; exact hl.2, fun p hp => q.lstD sm (ra.flatten_rep _) p hp⟩)
    · cases e
  · rename_i ds k
    split at e
    · rename_i hl
      cases e
      obtain ⟨a, vs, rfl, ha, ra⟩ := rx.seqT sm
      cases ry
      refine .inr (.inl ⟨a, _, vs, rfl, rfl, ha, fun z => hl.1 (ra.nil_iff.mp z), by have := hl.2.1; omega, by have := hl.2.1; omega, by rw [ra.length]; exact hl.2.2, fun z => ?_, fun _ p hp => q.tup sm (ra.flatten_rep _) p hp⟩)
      subst z
      have e : (List.replicate (1 : Int).toNat ds).flatten = ds := List.append_nil ds
      rw [e] at q
      exact q.sh sm rx
    · cases e
  · cases e
def negD : D → Option O
  | .int i => some (.sh (.int (-i)))
  | _ => none
theorem pr_neg {K : PySem.W.Frag} : Pr1 K cl (rU fun i => .int (-i)) negD := by
  intro F H x dx ob Q sm rx e q
  unfold negD at e
  split at e
  · cases e
    cases rx
    exact ⟨_, rfl, q.sh sm (.int _)⟩
  · cases e
/-! ## comparisons -/
def cmpD (g : Int → Int → Bool) : D → D → Option Bool
  | .int i, .int j => some (g i j)
  | _, _ => none
theorem pr_cmp {K : PySem.W.Frag} {g : Int → Int → Bool} : PrB K cl (L2.rI0 fun i j => .bl (g i j)) (cmpD g) := by
  intro F H x y dx dy k Q sm rx ry e q
  unfold cmpD at e
  split at e
  · cases e
    cases rx; cases ry
    exact ⟨_, _, rfl, rfl, q⟩
  · cases e
mutual
def toP : D → Option PyData
  | .non => some .none
  | .bl b => some (.bool b)
  | .int i => some (.int i)
  | .str x => some (.str x)
  | .lst xs => (toPs xs).map .list
  | .tup xs => (toPs xs).map .tuple
  | .ins _ _ => none
  | .scr _ => none
def toPs : List D → Option (List PyData)
  | [] => some []
  | d :: ds => match toP d, toPs ds with
    | some p, some ps => some (p :: ps)
    | _, _ => none
end
mutual
theorem toP_ok {K : PySem.W.Frag} {F H : Hp} (sm : Same F H) : ∀ (d : D) (p : PyData) (v : V), toP d = some p → Rep K cl F v d → Dp K H v p
  | .non, p, v, e, r => by cases r; simp [toP] at e; subst e; exact .non
  | .bl b, p, v, e, r => by cases r; simp [toP] at e; subst e; exact .bl b
  | .int i, p, v, e, r => by cases r; simp [toP] at e; subst e; exact .int i
  | .str x, p, v, e, r => by cases r; simp [toP] at e; subst e; exact .str x
  | .lst xs, p, v, e, r => by
    obtain ⟨a, vs, rfl, ha, ra⟩ := r.seqL sm
    cases h : toPs xs with
    | none => simp [toP, h] at e
    | some ps =>
      simp [toP, h] at e
      subst e
      exact .lst (.inl (.inl ha)) (toPs_ok sm xs ps vs h ra)
  | .tup xs, p, v, e, r => by
    obtain ⟨a, vs, rfl, ha, ra⟩ := r.seqT sm
    cases h : toPs xs with
    | none => simp [toP, h] at e
    | some ps =>
      simp [toP, h] at e
      subst e
      exact .tup ha (toPs_ok sm xs ps vs h ra)
  | .ins _ _, p, v, e, r => by simp [toP] at e
  | .scr _, p, v, e, r => by simp [toP] at e
theorem toPs_ok {K : PySem.W.Frag} {F H : Hp} (sm : Same F H) : ∀ (ds : List D) (ps : List PyData) (vs : List V), toPs ds = some ps → Reps K cl F vs ds → DpAll K H vs ps
  | [], ps, vs, e, r => by cases r; simp [toPs] at e; subst e; exact .nil
  | d :: ds, ps, vs, e, r => by
    cases r with
    | cons a b =>
      cases h1 : toP d with
      | none => simp [toPs, h1] at e
      | some p =>
        cases h2 : toPs ds with
        | none => simp [toPs, h1, h2] at e
        | some qs =>
          simp [toPs, h1, h2] at e
          subst e
          exact .cons (toP_ok sm d p _ h1 a) (toPs_ok sm ds qs _ h2 b)
end
def eqD (x y : D) : Option Bool := match toP x, toP y with
  | some d, some e => if SeqAt.shaped d = true ∧ SeqAt.shaped e = true then some (PyData.eqv d e) else none
  | _, _ => none
def neD (x y : D) : Option Bool := (eqD x y).map (!·)
theorem eqD_inv {x y : D} {k : Bool} (h : eqD x y = some k) : ∃ d e, toP x = some d ∧ toP y = some e ∧ SeqAt.shaped d = true ∧ SeqAt.shaped e = true ∧ k = PyData.eqv d e := by
  unfold eqD at h
  split at h
  · rename_i d e h1 h2
    split at h
    · rename_i s
      cases h
      exact ⟨d, e, h1, h2, s.1, s.2, rfl⟩
    · cases h
  · cases h
theorem pr_eq {K : PySem.W.Frag} : PrB K cl (rEqD K) eqD := by
  intro F H x y dx dy k Q sm rx ry h q
  obtain ⟨d, e, h1, h2, s1, s2, rfl⟩ := eqD_inv h
  exact ⟨d, e, toP_ok sm _ _ _ h1 rx, toP_ok sm _ _ _ h2 ry, s1, s2, q⟩
theorem pr_ne {K : PySem.W.Frag} : PrB K cl (rNeD K) neD := by
  intro F H x y dx dy k Q sm rx ry h q
  unfold neD at h
  cases e' : eqD dx dy with
  | none => rw [e'] at h; cases h
  | some k' =>
    rw [e'] at h
    cases h
    obtain ⟨d, e, h1, h2, s1, s2, rfl⟩ := eqD_inv e'
    exact ⟨d, e, toP_ok sm _ _ _ h1 rx, toP_ok sm _ _ _ h2 ry, s1, s2, q⟩
/-! ## is None, in -/
def isNon : D → Bool
  | .non => true
  | _ => false
theorem isNon_ok {K : PySem.W.Frag} {F : Hp} {v : V} {d : D} (r : Rep K cl F v d) : decide (v = .non) = isNon d := by
  cases r <;> simp [isNon]
def isND (x y : D) : Option Bool := if isNon y = true then some (isNon x) else none
def notND (x y : D) : Option Bool := if isNon y = true then some (!isNon x) else none
theorem non_of {K : PySem.W.Frag} {F : Hp} {v : V} {d : D} (r : Rep K cl F v d) (h : isNon d = true) : v = .non := by
  cases r <;> simp [isNon] at h
  rfl
theorem pr_isN {K : PySem.W.Frag} : PrB K cl (fun x y H Q => y = .non ∧ Q (.bl (decide (x = .non))) H) isND := by
  intro F H x y dx dy k Q sm rx ry h q
  unfold isND at h
  split at h
  · rename_i hy
    cases h
    refine ⟨non_of ry hy, ?_⟩
    rw [isNon_ok rx]
    exact q
  · cases h
theorem pr_notN {K : PySem.W.Frag} : PrB K cl (fun x y H Q => y = .non ∧ Q (.bl (!decide (x = .non))) H) notND := by
  intro F H x y dx dy k Q sm rx ry h q
  unfold notND at h
  split at h
  · rename_i hy
    cases h
    refine ⟨non_of ry hy, ?_⟩
    rw [isNon_ok rx]
    exact q
  · cases h
def flatD : D → Bool
  | .non => true
  | .bl _ => true
  | .int _ => true
  | .str _ => true
  | _ => false
def eqF : D → D → Bool
  | .non, .non => true
  | .bl a, .bl b => a == b
  | .bl a, .int b => (if a then 1 else 0) == b
  | .int a, .bl b => a == (if b then 1 else 0)
  | .int a, .int b => a == b
  | .str a, .str b => a == b
  | _, _ => false
theorem flat_ok {K : PySem.W.Frag} {F : Hp} {v : V} {d : D} (r : Rep K cl F v d) (h : flatD d = true) : flatV v = true := by
  cases r <;> first | rfl | (simp [flatD] at h)
theorem flats_ok {K : PySem.W.Frag} {F : Hp} : ∀ {vs : List V} {ds : List D}, Reps K cl F vs ds → ds.all flatD = true → vs.all flatV = true
  | _, _, .nil, _ => rfl
  | _, _, .cons a b, h => by
    rw [List.all_cons, Bool.and_eq_true] at h ⊢
    exact ⟨flat_ok a h.1, flats_ok b h.2⟩
theorem eqF_ok {K : PySem.W.Frag} {F : Hp} {v u : V} {d e : D} (r : Rep K cl F v d) (r' : Rep K cl F u e) (h : flatD d = true) (h' : flatD e = true) : eqV v u = eqF d e := by
  cases r <;> cases r' <;> first | rfl | (simp [flatD] at h; done) | (simp [flatD] at h'; done)
theorem any_ok {K : PySem.W.Frag} {F : Hp} {u : V} {e : D} (r' : Rep K cl F u e) (h' : flatD e = true) : ∀ {vs : List V} {ds : List D}, Reps K cl F vs ds → ds.all flatD = true → (vs.any fun y => eqV y u) = ds.any fun y => eqF y e
  | _, _, .nil, _ => rfl
  | _, _, .cons a b, h => by
    rw [List.all_cons, Bool.and_eq_true] at h
    rw [List.any_cons, List.any_cons, eqF_ok a r' h.1 h', any_ok r' h' b h.2]
def seqLT : D → Option (List D)
  | .lst xs => some xs
  | .tup xs => some xs
  | _ => none
def inD (x y : D) : Option Bool := match seqLT y with
  | some ys => if flatD x = true ∧ ys.all flatD = true then some (ys.any fun y => eqF y x) else none
  | none => none
def ninD (x y : D) : Option Bool := (inD x y).map (!·)
theorem in_ok {K : PySem.W.Frag} {F H : Hp} {x y : V} {dx dy : D} {k : Bool} (sm : Same F H) (rx : Rep K cl F x dx) (ry : Rep K cl F y dy) (h : inD dx dy = some k) :
    ∃ p xs, y = .ref p ∧ (SqL K H p xs ∨ SqT K H p xs) ∧ flatV x = true ∧ xs.all flatV = true ∧ inV x xs = k := by
  unfold inD at h
  cases e : seqLT dy with
  | none => rw [e] at h; cases h
  | some ys =>
    rw [e] at h
    have h : (if flatD dx = true ∧ ys.all flatD = true then some (ys.any fun y => eqF y dx) else none) = some k := h
    split at h
    · rename_i c
      cases h
      unfold seqLT at e
      split at e
      · cases e
        obtain ⟨a, vs, rfl, ha, ra⟩ := ry.seqL sm
        exact ⟨a, vs, rfl, .inl (.inl (.inl ha)), flat_ok rx c.1, flats_ok ra c.2, any_ok rx c.1 ra c.2⟩
      · cases e
        obtain ⟨a, vs, rfl, ha, ra⟩ := ry.seqT sm
        exact ⟨a, vs, rfl, .inr ha, flat_ok rx c.1, flats_ok ra c.2, any_ok rx c.1 ra c.2⟩
      · cases e
    · cases h
theorem pr_in {K : PySem.W.Frag} : PrB K cl (rIn K false) inD := by
  intro F H x y dx dy k Q sm rx ry h q
  obtain ⟨p, xs, a, b, c, d, e⟩ := in_ok sm rx ry h
  refine ⟨p, xs, a, b, c, d, ?_⟩
  rw [e]
  exact q
theorem pr_nin {K : PySem.W.Frag} : PrB K cl (rIn K true) ninD := by
  intro F H x y dx dy k Q sm rx ry h q
  unfold ninD at h
  cases e' : inD dx dy with
  | none => rw [e'] at h; cases h
  | some k' =>
    rw [e'] at h
    cases h
    obtain ⟨p, xs, a, b, c, d, e⟩ := in_ok sm rx ry e'
    refine ⟨p, xs, a, b, c, d, ?_⟩
    rw [e]
    exact q
/-! ## subscripts, slices -/
def ixD : D → D → Option O
  | .lst xs, .int i => (atI xs i).map O.sh
  | .tup xs, .int i => (atI xs i).map O.sh
  | .scr xs, .int i => (atI xs i).map O.sh
  | _, _ => none
def rIxA (K : PySem.W.Frag) : R2 := fun x y H Q => rIxL K x y H Q ∨ rIxT K x y H Q
theorem ix_A : IxR X (rIxA X.K) := ix_list.or ix_tup
theorem Reps.atI {K : PySem.W.Frag} {F : Hp} {vs : List V} {ds : List D} {i : Int} {d : D} (r : Reps K cl F vs ds) (h : L2.atI ds i = some d) : ∃ v, L2.atI vs i = some v ∧ Rep K cl F v d := by
  obtain ⟨j, hj, f⟩ := atI_eq r.length h
  obtain ⟨v, hv, rv⟩ := r.get hj
  exact ⟨v, f v hv, rv⟩
theorem pr_ix {K : PySem.W.Frag} : Pr2 K cl (rIxA K) ixD := by
  intro F H x y dx dy ob Q sm rx ry e q
  unfold ixD at e
  split at e
  · rename_i xs i
    cases h : L2.atI xs i with
    | none => rw [h] at e; cases e
    | some d =>
      rw [h] at e
      cases e
      obtain ⟨a, vs, rfl, ha, ra⟩ := rx.seqL sm
      cases ry
      obtain ⟨v, hv, rv⟩ := ra.atI h
      exact .inl ⟨a, vs, i, v, rfl, rfl, .inl (.inl ha), hv, q.sh sm rv⟩
  · rename_i xs i
    cases h : L2.atI xs i with
    | none => rw [h] at e; cases e
    | some d =>
      rw [h] at e
      cases e
      obtain ⟨a, vs, rfl, ha, ra⟩ := rx.seqT sm
      cases ry
      obtain ⟨v, hv, rv⟩ := ra.atI h
      exact .inr ⟨a, vs, i, v, rfl, rfl, ha, hv, q.sh sm rv⟩
  · rename_i xs i
    cases h : L2.atI xs i with
    | none => rw [h] at e; cases e
    | some d =>
      rw [h] at e
      cases e
      obtain ⟨a, vs, rfl, ha, ra⟩ := rx.seqS sm
      cases ry
      obtain ⟨v, hv, rv⟩ := ra.atI h
      exact .inl ⟨a, vs, i, v, rfl, rfl, ha, hv, q.sh sm rv⟩
  · cases e
def cutD {α : Type} (xs : List α) (lo hi : Option Int) : List α := (xs.drop (HT.sIx xs.length 0 lo)).take (HT.sIx xs.length xs.length hi - HT.sIx xs.length 0 lo)
theorem Reps.cut {K : PySem.W.Frag} {F : Hp} {vs : List V} {ds : List D} (r : Reps K cl F vs ds) (lo hi : Option Int) : Reps K cl F (cutV vs lo hi) (cutD ds lo hi) := by
  unfold cutV cutD
  rw [r.length]
  exact (r.drop _).take _
def slD : D → Option Int → Option Int → Option O
  | .lst xs, lo, hi => some (.lst ((cutD xs lo hi).map O.sh))
  | .scr xs, lo, hi => some (.lst ((cutD xs lo hi).map O.sh))
  | .tup xs, lo, hi => some (.sh (.tup (cutD xs lo hi)))
  | _, _, _ => none
def rSlAll (K : PySem.W.Frag) : V → Option Int → Option Int → Hp → VK → Prop := fun x lo hi H Q => rSlL K x lo hi H Q ∨ rSlA K x lo hi H Q
theorem sl_all' : L2.SlR X (rSlAll X.K) := L2.SlR.or sl_list sl_tupA
theorem cut_whole {α : Type} {xs : List α} {lo hi : Option Int} (h : HT.sIx xs.length 0 lo = 0 ∧ HT.sIx xs.length xs.length hi = xs.length) : cutD xs lo hi = xs := by
  unfold cutD
  rw [h.1, h.2]
  simp
theorem pr_sl {K : PySem.W.Frag} : Pr3 K cl (rSlAll K) slD := by
  intro F H x l u dx ob Q sm rx e q
  unfold slD at e
  split at e
  · cases e
    obtain ⟨a, vs, rfl, ha, ra⟩ := rx.seqL sm
    exact .inl ⟨a, vs, rfl, .inl (.inl ha), fun p hp => q.lstD sm (ra.cut l u) p hp⟩
  · cases e
    obtain ⟨a, vs, rfl, ha, ra⟩ := rx.seqS sm
    exact .inl ⟨a, vs, rfl, ha, fun p hp => q.lstD sm (ra.cut l u) p hp⟩
  · cases e
    obtain ⟨a, vs, rfl, ha, ra⟩ := rx.seqT sm
    refine .inr ⟨a, vs, rfl, ha, fun w => ?_, fun _ p hp => q.tup sm (ra.cut l u) p hp⟩
    rw [ra.length] at w
    rw [cut_whole w] at q
    exact q.sh sm rx
  · cases e
end
end Tk

set_option Elab.async false
set_option linter.all false
set_option maxRecDepth 100000
set_option maxHeartbeats 4000000
namespace Tk
open PySem PySem.Spec PyProof.Rows L2
/-! ## x[ix] op= e -/
def rGetL : V → V → Hp → VK → Prop := fun o i H Q => ∃ p xs k v, o = .ref p ∧ i = .int k ∧ H p = some (.lst xs) ∧ atI xs k = some v ∧ Q v H
theorem get_list {X : Cx} : PGet X rGetL := by
  intro pins s σ H o i ov iv Q I ro ri h
  obtain ⟨p, xs, k, z, rfl, rfl, hp, he, q⟩ := h
  cases ro
  obtain ⟨t, rfl⟩ := ri
  obtain ⟨its, r, pl, hz⟩ := I.list (.inl (.inl hp))
  obtain ⟨j, h1, h2, h3, h4, h5⟩ := atI_get he
  obtain ⟨w, ew, rw'⟩ := r.get h2
  have hl := r.length
  have hn := line63
  have fin : EP X pins σ Q w s := ⟨z, H, I, rw', q⟩
  by_cases h0 : 0 ≤ k
  · have hj : k.toNat = j := by
      rw [seqIndex_of h0 h5] at h1
      exact Option.some.inj h1
    exact wpAny_getItem_list pl.isList h0 (by omega) (by rw [hj]; simpa using ew) fin
  · have hj : (k + (its.toArray.size : Int)).toNat = j := by
      rw [seqIndex_neg (by omega) h4] at h1
      rw [List.size_toArray, ← hl]
      exact Option.some.inj h1
    exact wpAny_getItem_list_neg pl.isList (by omega) (by rw [List.size_toArray] <;> omega) (by omega) (by rw [hj]; simpa using ew) fin
section
variable {X : Cx} {cl : Nat → Addr} {E : XK} {a b c e : Expr} {pos : Pos} {kp : List Nat}
def sAugI (i : Nat) (g : Int → Int → Int) (ix f : Env → Res D) : Env → SRes := fun ρ => match slot ρ i with
  | some (.lst _) => sB (ix ρ) fun k r1 => match k, slot r1 i with
    | .int k, some (.lst os) => match atI os k with
      | some (.sh (.int x)) => sB (f r1) fun d r2 => match d, slot r2 i with
        | .int y, some (.lst os2) => match ixN os2.length k with
          | some j => .nx (r2.set i (some (.lst (os2.set j (.sh (.int (g x y)))))))
          | none => .no
        | _, _ => .no
      | _ => .no
    | _, _ => .no
  | _ => .no
theorem s_augI (i : Nat) {ix f : Env → Res D} {ob ie : Expr} {p2 : Pos} {op : Operator} {g : Int → Int → Int} (ho : PE X ob (tVar i)) (hi : PE X ie (tV X.K cl E ix)) (hop : PIp X op (ipI g)) (he : PE X e (tV X.K cl E f))
    (ha : ∀ ov iv new, augStore ie ov iv new = (do holding [new, ov, iv] (setItem ov iv new); release [new, ov, iv] []; pure .next) := by intros; rfl) : PS X (.AugAssign (.Subscript ob ie p2) op e pos) (tS X.K cl E kp (sAugI i g ix f)) := by
  refine PS.imp (ps_augS ho hi get_list he hop set_list ha) fun D σ H ⟨F, fp, ρ, sr, q⟩ => ?_
  unfold sAugI at q
  split at q
  · rename_i os0 e0
    obtain ⟨a0, vs0, fq0, hv0, hH0, _, _, _⟩ := slot_lst sr e0
    refine ⟨.ref a0, hv0, ?_⟩
    refine wp_S sr q fun x dx ρ1 F1 H1 fp1 st1 sr1 rx q1 => ?_
    split at q1
    · rename_i k os ek
      split at q1
      · rename_i x0 ed
        obtain ⟨a, vs, fq, hv, hH, r1, _, _⟩ := slot_lst sr1 ek
        rw [hv0] at hv
        cases hv
        cases rx
        obtain ⟨j0, hj0, hx0⟩ := atI_eq r1.length ed
        obtain ⟨v, fw, hvj, rw', _⟩ := r1.get hj0
        cases rw' with
        | sh rd =>
          cases rd
          refine ⟨a0, vs, k, .int x0, rfl, rfl, hH, hx0 _ hvj, ?_⟩
          refine wp_S sr1 q1 fun y dy ρ2 F2 H2 fp2 st2 sr2 ry q2 => ?_
          split at q2
          · rename_i y0 os2 e2
            split at q2
            · rename_i j ej
              obtain ⟨a2, vs2, fq2, hv2, hH2, r2, _, _⟩ := slot_lst sr2 e2
              rw [hv0] at hv2
              cases hv2
              cases ry
              refine ⟨x0, _, rfl, rfl, a0, vs2, k, j, rfl, rfl, hH2, by rw [r2.length]; exact ej, ?_⟩
              obtain ⟨fp', s3, st3⟩ := write_list (fv := []) (vs2 := vs2.set j (.int (g x0 _))) (os2 := os2.set j (.sh (.int (g x0 _)))) sr2 (slot_get e2) hv0 hH2 (by simpa using sr2.nd) fun fq rq nq dq => ROwns.set j rq (.sh (.int _)) nq .nil (fun _ h => nomatch h)
              exact q2 σ F2 _ fp' (by simpa using st3) s3 Kept.refl
            · exact q2.elim
          · exact q2.elim
      · exact q1.elim
    · exact q1.elim
  · exact q.elim
/-! ## reversed, enumerate -/
def iRev (f : Env → Res D) : Env → Res (List D) := fun ρ => (f ρ).bind fun d r => match seqLT d with
  | some ds => if ds.length ≤ sizeLine then .ok ds.reverse r else .no
  | none => .no
theorem iw_rev {K : PySem.W.Frag} {F : Hp} {a : Addr} {xs : List V} {ds : List D} (h : SqL K F a xs) (r : Reps K cl F xs ds) : IW K cl F (Itv K a xs.length) ds.reverse := by
  intro F2 H2 s1 s2
  have q : SqL K H2 a xs := s2.seq (s1.seq h)
  refine ⟨fun i d e => ?_, by show xs.length ≤ ds.reverse.length; rw [List.length_reverse, r.length]; exact Nat.le_refl _⟩
  have hi : i < ds.length := by have := (List.getElem?_eq_some_iff.mp e).1; simpa using this
  rw [List.getElem?_reverse hi] at e
  obtain ⟨v, hv, rv⟩ := r.get e
  rw [← r.length] at hv hi
  refine ⟨⟨hi, xs, v, q, hv⟩, fun x H3 ⟨e3, y⟩ => ?_⟩
  subst e3
  have : x = v := Option.some.inj ((y xs q).symm.trans hv)
  subst this
  exact ⟨F2, Grow.refl s2, rv.mono s1 d⟩
theorem iw_revT {K : PySem.W.Frag} {F : Hp} {a : Addr} {xs : List V} {ds : List D} (h : SqT K F a xs) (r : Reps K cl F xs ds) : IW K cl F (RT.ItvT K a xs.length) ds.reverse := by
  intro F2 H2 s1 s2
  have q : SqT K H2 a xs := seqT s2 (seqT s1 h)
  refine ⟨fun i d e => ?_, by show xs.length ≤ ds.reverse.length; rw [List.length_reverse, r.length]; exact Nat.le_refl _⟩
  have hi : i < ds.length := by have := (List.getElem?_eq_some_iff.mp e).1; simpa using this
  rw [List.getElem?_reverse hi] at e
  obtain ⟨v, hv, rv⟩ := r.get e
  rw [← r.length] at hv hi
  refine ⟨⟨hi, xs, v, q, hv⟩, fun x H3 ⟨e3, y⟩ => ?_⟩
  subst e3
  have : x = v := Option.some.inj ((y xs q).symm.trans hv)
  subst this
  exact ⟨F2, Grow.refl s2, rv.mono s1 d⟩
theorem i_rev {tg : Expr} {f : Env → Res D} {p : Pos} (hg : Gl X "reversed") (hm : X.mg "reversed" = none) (he : PE X e (tV X.K cl E f)) (hs : starEach [e] X.env = (false, eval e X.env) :: starEach [] X.env := by rfl) : PI X tg (.Call (.Name "reversed" p) [e] [] pos) (tI X.K cl E (iRev f)) := by
  refine PI.imp (RT.pi_revA hg hm he hs) fun σ H R ⟨F, fp, ρ, sr, q⟩ => ?_
  refine wp_bindV sr q fun v d ρ1 F1 H1 fp1 st1 sr1 rv q1 => ?_
  cases e1 : seqLT d with
  | none => rw [e1] at q1; exact q1.elim
  | some ds =>
    rw [e1] at q1
    have q1 : wp X.K cl E (Tk.rI X.K cl) (if ds.length ≤ sizeLine then Res.ok ds.reverse ρ1 else .no) F1 H1 fp1 σ R := q1
    split at q1
    · rename_i hz
      unfold seqLT at e1
      split at e1
      · cases e1
        cases rv with
        | lst ha rs =>
          exact ⟨_, _, rfl, .inl ⟨.inl (.inl (sr1.le _ _ ha)), q1 _ F1 H1 fp1 Stp.refl sr1 ⟨iw_rev (.inl (.inl ha)) rs, by rw [List.length_reverse]; exact hz⟩⟩⟩
      · cases e1
        cases rv with
        | tup ha rs =>
          exact ⟨_, _, rfl, .inr ⟨seqT sr1.le ha, q1 _ F1 H1 fp1 Stp.refl sr1 ⟨iw_revT ha rs, by rw [List.length_reverse]; exact hz⟩⟩⟩
      · cases e1
    · exact q1.elim
def enumL : Nat → List D → List D
  | _, [] => []
  | n, d :: ds => .tup [.int (n : Int), d] :: enumL (n + 1) ds
theorem enumL_length : ∀ (n : Nat) (ds : List D), (enumL n ds).length = ds.length
  | _, [] => rfl
  | n, d :: ds => by simp [enumL, enumL_length (n + 1) ds]
theorem enumL_get : ∀ (n i : Nat) (ds : List D) (d : D), (enumL n ds)[i]? = some d → ∃ x, ds[i]? = some x ∧ d = .tup [.int ((n + i : Nat) : Int), x]
  | _, i, [], d, h => by simp [enumL] at h
  | n, 0, x :: ds, d, h => by
    simp [enumL] at h
    exact ⟨x, rfl, by simpa using h.symm⟩
  | n, i + 1, x :: ds, d, h => by
    simp [enumL] at h
    obtain ⟨y, hy, e⟩ := enumL_get (n + 1) i ds d h
    refine ⟨y, by simpa using hy, ?_⟩
    rw [e]
    have : n + 1 + i = n + (i + 1) := by omega
    rw [this]
theorem enum_grow {K : PySem.W.Frag} {F2 H2 : Hp} {v : V} {d : D} {i : Nat} {T : Addr} (s2 : Same F2 H2) (hT : H2 T = none) (r : Rep K cl F2 v d) : ∃ F3, Grow F2 H2 F3 (upd H2 T (.tup [.int (i : Nat), v])) ∧ Rep K cl F3 (.ref T) (.tup [.int (i : Nat), d]) := by
  have g := Grow.new (u := .tup [.int (i : Nat), v]) s2 hT
  exact ⟨_, g, .tup (.inl (.inl upd_same)) (.cons (.int _) (.cons (r.mono g.le d) .nil))⟩
theorem iw_enum {K : PySem.W.Frag} {F : Hp} {a : Addr} {xs : List V} {ds : List D} (h : SqL K F a xs) (r : Reps K cl F xs ds) : IW K cl F (Ite K a) (enumL 0 ds) := by
  intro F2 H2 s1 s2
  have q : SqL K H2 a xs := s2.seq (s1.seq h)
  refine ⟨fun i d e => ?_, xs, q, by rw [enumL_length, r.length]; exact Nat.le_refl _⟩
  obtain ⟨x0, hx0, rfl⟩ := enumL_get 0 i ds d e
  obtain ⟨v, hv, rv⟩ := r.get hx0
  refine ⟨⟨xs, v, q, hv⟩, fun x H3 y => ?_⟩
  obtain ⟨T, x1, rfl, hT, rfl, y⟩ := y
  have : x1 = v := Option.some.inj ((y xs q).symm.trans hv)
  subst this
  rw [Nat.zero_add]
  exact enum_grow (i := i) s2 hT (rv.mono s1 x0)
theorem iw_enumT {K : PySem.W.Frag} {F : Hp} {a : Addr} {xs : List V} {ds : List D} (h : SqT K F a xs) (r : Reps K cl F xs ds) : IW K cl F (IteT K a xs.length) (enumL 0 ds) := by
  intro F2 H2 s1 s2
  have q : SqT K H2 a xs := seqT s2 (seqT s1 h)
  refine ⟨fun i d e => ?_, by rw [enumL_length, r.length]; exact Nat.le_refl _, xs, q, rfl⟩
  obtain ⟨x0, hx0, rfl⟩ := enumL_get 0 i ds d e
  obtain ⟨v, hv, rv⟩ := r.get hx0
  refine ⟨⟨(List.getElem?_eq_some_iff.mp hv).1, xs, v, q, hv⟩, fun x H3 y => ?_⟩
  obtain ⟨T, x1, rfl, hT, rfl, y⟩ := y
  have : x1 = v := Option.some.inj ((y xs q).symm.trans hv)
  subst this
  rw [Nat.zero_add]
  exact enum_grow (i := i) s2 hT (rv.mono s1 x0)
def enum1 : List D → Option (List D)
  | [d] => match seqLT d with
    | some ds => some (enumL 0 ds)
    | none => none
  | _ => none
theorem i_enum {f : Env → Res (List D)} {p tpos : Pos} {elts : List Expr} {kk : Nat} (hg : Gl X "enumerate") (hm : X.mg "enumerate" = none) (ha : PA X [e] (tA X.K cl E f)) (hs : starEach [e] X.env = [(false, eval e X.env)] := by rfl) :
    PI X (.Tuple elts kk tpos) (.Call (.Name "enumerate" p) [e] [] pos) (tI X.K cl E (iN enum1 f)) := by
  refine PI.imp (pi_enumA hg hm ha hs) fun σ H R ⟨F, fp, ρ, sr, q⟩ => ?_
  refine wp_bindV sr q fun vs ds ρ1 F1 H1 fp1 st1 sr1 rv q1 => ?_
  cases e1 : enum1 ds with
  | none => rw [e1] at q1; exact q1.elim
  | some es =>
    rw [e1] at q1
    unfold enum1 at e1
    split at e1
    · rename_i d
      obtain ⟨v, rfl, rd⟩ := Reps.one' rv
      cases e2 : seqLT d with
      | none => rw [e2] at e1; cases e1
      | some ys =>
        rw [e2] at e1
        cases e1
        unfold seqLT at e2
        split at e2
        · cases e2
          cases rd with
          | lst ha rs =>
            exact ⟨_, _, rfl, .inl ⟨.inl (.inl (sr1.le _ _ ha)), fun hz => q1 _ F1 H1 fp1 Stp.refl sr1 ⟨iw_enum (.inl (.inl ha)) rs, by rw [enumL_length, ← rs.length]; exact hz⟩⟩⟩
        · cases e2
          cases rd with
          | tup ha rs =>
            exact ⟨_, _, rfl, .inr ⟨seqT sr1.le ha, fun hz => q1 _ F1 H1 fp1 Stp.refl sr1 ⟨iw_enumT ha rs, by rw [enumL_length, ← rs.length]; exact hz⟩⟩⟩
        · cases e2
    · cases e1
/-! ## len, int, abs, max, min, tuple, list, all, sum -/
def lenD : List D → Option O
  | [.lst xs] => some (.sh (.int xs.length))
  | [.tup xs] => some (.sh (.int xs.length))
  | [.scr xs] => some (.sh (.int xs.length))
  | _ => none
theorem pr_len {K : PySem.W.Frag} : PrN K cl (fun xs H Q => ∃ p ys, xs = [.ref p] ∧ (SqL K H p ys ∨ SqT K H p ys) ∧ Q (.int ys.length) H) lenD := by
  intro F H xs ds ob Q sm rs e q
  unfold lenD at e
  split at e
  · cases e
    obtain ⟨v, rfl, r⟩ := Reps.one' rs
    obtain ⟨a, vs, rfl, ha, ra⟩ := r.seqL sm
    refine ⟨a, vs, rfl, .inl (.inl (.inl ha)), ?_⟩
    rw [ra.length]
    exact q.sh sm (.int _)
  · cases e
    obtain ⟨v, rfl, r⟩ := Reps.one' rs
    obtain ⟨a, vs, rfl, ha, ra⟩ := r.seqT sm
    refine ⟨a, vs, rfl, .inr ha, ?_⟩
    rw [ra.length]
    exact q.sh sm (.int _)
  · cases e
    obtain ⟨v, rfl, r⟩ := Reps.one' rs
    obtain ⟨a, vs, rfl, ha, ra⟩ := r.seqS sm
    refine ⟨a, vs, rfl, .inl ha, ?_⟩
    rw [ra.length]
    exact q.sh sm (.int _)
  · cases e
def intD : List D → Option O
  | [.int i] => some (.sh (.int i))
  | [.bl k] => some (.sh (.int (if k then 1 else 0)))
  | _ => none
theorem pr_int {K : PySem.W.Frag} : PrN K cl (fun xs H Q => (∃ i, xs = [.int i] ∧ Q (.int i) H) ∨ ∃ k, xs = [.bl k] ∧ Q (.int (if k then 1 else 0)) H) intD := by
  intro F H xs ds ob Q sm rs e q
  unfold intD at e
  split at e
  · cases e
    obtain ⟨v, rfl, r⟩ := Reps.one' rs
    cases r
    exact .inl ⟨_, rfl, q.sh sm (.int _)⟩
  · cases e
    obtain ⟨v, rfl, r⟩ := Reps.one' rs
    cases r
    exact .inr ⟨_, rfl, q.sh sm (.int _)⟩
  · cases e
def absD : List D → Option O
  | [.int i] => some (.sh (.int (if i < 0 then -i else i)))
  | _ => none
theorem pr_abs {K : PySem.W.Frag} : PrN K cl (fun xs H Q => ∃ i, xs = [.int i] ∧ Q (.int (if i < 0 then -i else i)) H) absD := by
  intro F H xs ds ob Q sm rs e q
  unfold absD at e
  split at e
  · cases e
    obtain ⟨v, rfl, r⟩ := Reps.one' rs
    cases r
    exact ⟨_, rfl, q.sh sm (.int _)⟩
  · cases e
def topI : Int → List Int → Int
  | m, [] => m
  | m, i :: is => topI (if i > m then i else m) is
theorem topI_spec : ∀ (is : List Int) (m : Int), topI m is ∈ m :: is ∧ ∀ y ∈ m :: is, y ≤ topI m is
  | [], m => by simp [topI]
  | i :: is, m => by
    obtain ⟨h1, h2⟩ := topI_spec is (if i > m then i else m)
    refine ⟨?_, fun y hy => ?_⟩
    · show topI (if i > m then i else m) is ∈ m :: i :: is
      rcases List.mem_cons.mp h1 with h | h
      · rw [h]
        split <;> simp
      · exact List.mem_cons_of_mem _ (List.mem_cons_of_mem _ h)
    · show y ≤ topI (if i > m then i else m) is
      have h0 := h2 _ List.mem_cons_self
      have h3 : i ≤ (if i > m then i else m) ∧ m ≤ (if i > m then i else m) := by split <;> omega
      rcases List.mem_cons.mp hy with e | hy
      · rw [e]; exact Int.le_trans h3.2 h0
      · rcases List.mem_cons.mp hy with e | hy
        · rw [e]; exact Int.le_trans h3.1 h0
        · exact h2 y (List.mem_cons_of_mem _ hy)
def maxD : List D → Option O
  | [.int i, .int j] => some (.sh (.int (if j > i then j else i)))
  | [.lst xs] => match ints? xs with
    | some (i :: is) => some (.sh (.int (topI i is)))
    | _ => none
  | _ => none
def rMaxA (K : PySem.W.Frag) : List V → Hp → VK → Prop := fun xs H Q => (∃ i j, xs = [.int i, .int j] ∧ Q (.int (if j > i then j else i)) H) ∨ rMax K xs H Q
theorem call_maxA (hc : X.calm = true) : CallR X (.builtin "max") (rMaxA X.K) := CallR.or (call_max2 hc) (cr_max hc)
theorem pr_max {K : PySem.W.Frag} : PrN K cl (rMaxA K) maxD := by
  intro F H xs ds ob Q sm rs e q
  unfold maxD at e
  split at e
  · cases e
    obtain ⟨v, v', rfl, r, r'⟩ := Reps.two rs
    cases r; cases r'
    exact .inl ⟨_, _, rfl, q.sh sm (.int _)⟩
  · obtain ⟨v, rfl, r⟩ := Reps.one' rs
    split at e
    · rename_i i is hi
      cases e
      obtain ⟨a, vs, rfl, ha, ra⟩ := r.seqL sm
      have ev := ints_ok hi ra
      subst ev
      obtain ⟨h1, h2⟩ := topI_spec is i
      refine .inr ⟨a, i :: is, rfl, .inl (.inl ha), by simp, fun m hm hy => ?_⟩
      have e1 := hy _ h1
      have e2 := h2 _ hm
      have : m = topI i is := by omega
      subst this
      exact q.sh sm (.int _)
    · cases e
  · cases e
def minD : List D → Option O
  | [.int i, .int j] => some (.sh (.int (if j < i then j else i)))
  | _ => none
theorem pr_min {K : PySem.W.Frag} : PrN K cl (fun xs H Q => ∃ i j, xs = [.int i, .int j] ∧ Q (.int (if j < i then j else i)) H) minD := by
  intro F H xs ds ob Q sm rs e q
  unfold minD at e
  split at e
  · cases e
    obtain ⟨v, v', rfl, r, r'⟩ := Reps.two rs
    cases r; cases r'
    exact ⟨_, _, rfl, q.sh sm (.int _)⟩
  · cases e
def tupOf : List D → Option O
  | [.lst xs] => some (.sh (.tup xs))
  | [.tup xs] => some (.sh (.tup xs))
  | _ => none
theorem pr_tuple {K : PySem.W.Frag} : PrN K cl (fun xs H Q => ∃ p ys, xs = [.ref p] ∧ ((SqL K H p ys ∧ ∀ l, H l = none → Q (.ref l) (upd H l (.tup ys))) ∨ (SqT K H p ys ∧ Q (.ref p) H))) tupOf := by
  intro F H xs ds ob Q sm rs e q
  unfold tupOf at e
  split at e
  · cases e
    obtain ⟨v, rfl, r⟩ := Reps.one' rs
    obtain ⟨a, vs, rfl, ha, ra⟩ := r.seqL sm
    exact ⟨a, vs, rfl, .inl ⟨.inl (.inl ha), fun p hp => q.tup sm ra p hp⟩⟩
  · cases e
    obtain ⟨v, rfl, r⟩ := Reps.one' rs
    obtain ⟨a, vs, rfl, ha, ra⟩ := r.seqT sm
    exact ⟨a, vs, rfl, .inr ⟨ha, q.sh sm r⟩⟩
  · cases e
def lstOf : List D → Option O
  | [.lst xs] => some (.lst (xs.map O.sh))
  | [.tup xs] => some (.lst (xs.map O.sh))
  | _ => none
theorem pr_list {K : PySem.W.Frag} : PrN K cl (fun xs H Q => ∃ p ys, xs = [.ref p] ∧ (SqL K H p ys ∨ SqT K H p ys) ∧ ∀ l, H l = none → Q (.ref l) (upd H l (.lst ys))) lstOf := by
  intro F H xs ds ob Q sm rs e q
  unfold lstOf at e
  split at e
  · cases e
    obtain ⟨v, rfl, r⟩ := Reps.one' rs
    obtain ⟨a, vs, rfl, ha, ra⟩ := r.seqL sm
    exact ⟨a, vs, rfl, .inl (.inl (.inl ha)), fun p hp => q.lstD sm ra p hp⟩
  · cases e
    obtain ⟨v, rfl, r⟩ := Reps.one' rs
    obtain ⟨a, vs, rfl, ha, ra⟩ := r.seqT sm
    exact ⟨a, vs, rfl, .inr ha, fun p hp => q.lstD sm ra p hp⟩
  · cases e
def allD : List D → Option O
  | [.lst xs] => match bls? xs with
    | some bs => some (.sh (.bl (bs.all id)))
    | none => none
  | _ => none
theorem pr_all {K : PySem.W.Frag} : PrN K cl (rAll K) allD := by
  intro F H xs ds ob Q sm rs e q
  unfold allD at e
  split at e
  · obtain ⟨v, rfl, r⟩ := Reps.one' rs
    split at e
    · rename_i bs hb
      cases e
      obtain ⟨a, vs, rfl, ha, ra⟩ := r.seqL sm
      have ev := bls_ok hb ra
      subst ev
      exact ⟨a, bs, rfl, .inl (.inl ha), q.sh sm (.bl _)⟩
    · cases e
  · cases e
def anyD : List D → Option O
  | [.lst xs] => match bls? xs with
    | some bs => some (.sh (.bl (bs.any id)))
    | none => none
  | _ => none
theorem pr_any {K : PySem.W.Frag} : PrN K cl (rAny K) anyD := by
  intro F H xs ds ob Q sm rs e q
  unfold anyD at e
  split at e
  · obtain ⟨v, rfl, r⟩ := Reps.one' rs
    split at e
    · rename_i bs hb
      cases e
      obtain ⟨a, vs, rfl, ha, ra⟩ := r.seqL sm
      have ev := bls_ok hb ra
      subst ev
      exact ⟨a, bs, rfl, .inl (.inl ha), q.sh sm (.bl _)⟩
    · cases e
  · cases e
def sumD : List D → Option O
  | [.lst xs] => match ints? xs with
    | some is => some (.sh (.int is.sum))
    | none => none
  | _ => none
theorem pr_sum {K : PySem.W.Frag} : PrN K cl (rSum K) sumD := by
  intro F H xs ds ob Q sm rs e q
  unfold sumD at e
  split at e
  · obtain ⟨v, rfl, r⟩ := Reps.one' rs
    split at e
    · rename_i bs hb
      cases e
      obtain ⟨a, vs, rfl, ha, ra⟩ := r.seqL sm
      have ev := ints_ok hb ra
      subst ev
      exact ⟨a, bs, rfl, .inl (.inl ha), q.sh sm (.int _)⟩
    · cases e
  · cases e
end
end Tk

set_option Elab.async false
set_option linter.all false
set_option maxRecDepth 100000
set_option maxHeartbeats 4000000
namespace Tk
open PySem PySem.Spec PyProof.Rows L2
/-! ## isinstance -/
/-- what is asked of an own class for isinstance -/
structure ClsI (K : PySem.W.Frag) (C : Addr) : Prop where
  c : Cls K C
  ha : PySem.W.findIn K (.ref C) "__class__" = some (some (.builtin "object.__class__"))
  hn : PySem.W.specialIn K (.builtin "object.__class__") "__get__" = some (some (.builtin "getset_descriptor.__get__"))
  htk : PySem.W.takesIn K (.builtin "object.__class__") = some true
  hm : PySem.W.mroIn K C (.type "object") = some true
section
variable {X : Cx} {cl : Nat → Addr} {E : XK} {a b c e : Expr} {pos : Pos}
theorem tyT {K : PySem.W.Frag} {H : Hp} {a : Addr} {vs : List V} (h : SqT K H a vs) : TyX K H (.ref a) (.type "tuple") := by
  rcases h with (h | ⟨o, h⟩) | ⟨o, its, n, hk, hc, hs, hz, r⟩
  · exact .base (.tup h)
  · exact .fTuple h
  · exact .kTuple hk hc
/-- the built-in type of plain data -/
def tyD : D → Option String
  | .non => some "NoneType"
  | .bl _ => some "bool"
  | .int _ => some "int"
  | .str _ => some "str"
  | .lst _ => some "list"
  | .tup _ => some "tuple"
  | _ => none
theorem tyD_ok {K : PySem.W.Frag} {F H : Hp} {v : V} {d : D} {t : String} (sm : Same F H) (r : Rep K cl F v d) (h : tyD d = some t) : TyX K H v (.type t) := by
  cases d with
  | non => cases h; cases r; exact .base .non
  | bl k => cases h; cases r; exact .base (.bl k)
  | int i => cases h; cases r; exact .base (.int i)
  | str x => cases h; cases r; exact .base (.str x)
  | lst xs =>
    cases h
    obtain ⟨a, vs, rfl, ha, ra⟩ := r.seqL sm
    exact .base (.lst ha)
  | tup xs =>
    cases h
    obtain ⟨a, vs, rfl, ha, ra⟩ := r.seqT sm
    exact tyT ha
  | ins c fs => cases h
  | scr xs => cases h
def isB (T : String) (d : D) : Option Bool := (tyD d).bind fun t => kitB t T
def isO (cn : Nat) : D → Option Bool
  | .ins c _ => if c = cn then some true else none
  | _ => none
def IsA (K : PySem.W.Frag) (cl : Nat → Addr) (u : Value) (o : D → Option Bool) : Prop := ∀ (F H : Hp) (v : V) (d : D) (b : Bool), Same F H → Rep K cl F v d → o d = some b → ∃ t, TyX K H v t ∧ PySem.W.kitOne K t u = some b
theorem isa_B {K : PySem.W.Frag} {T : String} : IsA K cl (.type T) (isB T) := by
  intro F H v d b sm r h
  unfold isB at h
  cases e : tyD d with
  | none => rw [e] at h; cases h
  | some t =>
    rw [e] at h
    exact ⟨_, tyD_ok sm r e, kit_ty h⟩
theorem isa_O {K : PySem.W.Frag} {cn : Nat} (h : ClsI K (cl cn)) : IsA K cl (.ref (cl cn)) (isO cn) := by
  intro F H v d b sm r e
  unfold isO at e
  split at e
  · split at e
    · rename_i hc
      cases e
      subst hc
      cases r with
      | ins ha hf =>
        refine ⟨_, .base (.ins (sm _ _ ha) h.c h.ha h.hn h.htk h.hm), ?_⟩
        unfold PySem.W.kitOne
        rw [if_pos (by simp)]
    · cases e
  · cases e
def isI (o : D → Option Bool) (d : D) : Option O := tst (o d)
theorem m_isi {cv : V} {u : Value} {o : D → Option Bool} {p : Pos} {f : Env → Res D} (hk : ClsV cv u) (ho : IsA X.K cl u o) (hg : Gl X "isinstance") (hm : X.mg "isinstance" = none) (he : PE X e (tV X.K cl E f)) (hc : PE X c (tC cv))
    (h1 : starEach [e, c] X.env = (false, eval e X.env) :: starEach [c] X.env := by rfl) (h2 : starEach [c] X.env = (false, eval c X.env) :: starEach [] X.env := by rfl) (hpl : (backTo pos (starEach [c] X.env)).any (·.1) = false := by rfl) :
    PE X (.Call (.Name "isinstance" p) [e, c] [] pos) (tO X.K cl E (e1 (isI o) f)) := by
  refine PE.imp (pe_callB call_isi hg hm (by rfl) (pa_cons he (pa_cons hc pa_nil h2) h1) (by decide) (by decide) h1 hpl) fun σ H Q ⟨F, fp, ρ, sr, q⟩ => ?_
  refine wp_bindO sr q fun x dx ρ1 F1 H1 fp1 st1 sr1 rx q1 => ?_
  obtain ⟨o', eo, fin⟩ := fin_opt sr1 q1
  unfold isI at eo
  cases k : o dx with
  | none => rw [k] at eo; cases eo
  | some b =>
    rw [k] at eo
    cases eo
    obtain ⟨t, ty, ek⟩ := ho F1 H1 x dx b sr1.le rx k
    exact ⟨x, cv, t, u, b, rfl, hk, ty, ek, fin.sh sr1.le (.bl b)⟩
/-- isinstance(e, (A, B)) of built-in types -/
def isB2 (A B : String) (d : D) : Option Bool := (tyD d).bind fun t => match kitB t A with
  | some true => some true
  | some false => kitB t B
  | none => none
theorem m_isi2 {A B : String} {p pt : Pos} {x1} {f : Env → Res D} (hg : Gl X "isinstance") (hm : X.mg "isinstance" = none) (he : PE X e (tV X.K cl E f)) (ha : PE X a (tC (.ty A))) (hb : PE X b (tC (.ty B)))
    (h1 : starEach [e, .Tuple [a, b] x1 pt] X.env = (false, eval e X.env) :: starEach [.Tuple [a, b] x1 pt] X.env := by rfl) (h2 : starEach [.Tuple [a, b] x1 pt] X.env = (false, eval (.Tuple [a, b] x1 pt) X.env) :: starEach [] X.env := by rfl)
    (h3 : starEach [a, b] X.env = (false, eval a X.env) :: starEach [b] X.env := by rfl) (h4 : starEach [b] X.env = (false, eval b X.env) :: starEach [] X.env := by rfl) (hpl : (backTo pos (starEach [.Tuple [a, b] x1 pt] X.env)).any (·.1) = false := by rfl) :
    PE X (.Call (.Name "isinstance" p) [e, .Tuple [a, b] x1 pt] [] pos) (tO X.K cl E (e1 (isI (isB2 A B)) f)) := by
  refine PE.imp (pe_callB call_isiT hg hm (by rfl) (pa_cons he (pa_cons (pe_tup (pa_cons ha (pa_cons hb pa_nil h4) h3)) pa_nil h2) h1) (by decide) (by decide) h1 hpl) fun σ H Q ⟨F, fp, ρ, sr, q⟩ => ?_
  refine wp_bindO sr q fun x dx ρ1 F1 H1 fp1 st1 sr1 rx q1 => ?_
  obtain ⟨o', eo, fin⟩ := fin_opt sr1 q1
  unfold isI at eo
  cases k : isB2 A B dx with
  | none => rw [k] at eo; cases eo
  | some r =>
    rw [k] at eo
    cases eo
    unfold isB2 at k
    cases et : tyD dx with
    | none => rw [et] at k; cases k
    | some t =>
      rw [et] at k
      have k : (match kitB t A with
        | some true => some true
        | some false => kitB t B
        | none => none) = some r := k
      refine ⟨by show 2 ≤ sizeLine; decide, fun tp hp => ?_⟩
      have g := Grow.new (u := .tup [.ty A, .ty B]) sr1.le hp
      refine ⟨x, tp, [.ty A, .ty B], .type t, [.type A, .type B], r, rfl, upd_same, .cons (.ty A) (.cons (.ty B) .nil), tyD_ok g.fh (rx.mono g.le dx) et, ?_, fin _ _ _ [] g (.sh (.bl r)) (fun _ h => nomatch h) .nil⟩
      split at k
      · rename_i h
        cases k
        exact kitAny_cons (kit_ty h) (fun z => nomatch z) (fun _ => rfl)
      · rename_i h
        refine kitAny_cons (kit_ty h) (fun _ => ?_) (fun z => nomatch z)
        cases r with
        | true => exact kitAny_cons (kit_ty k) (fun z => nomatch z) (fun _ => rfl)
        | false => exact kitAny_cons (kit_ty k) (fun _ => kitAny_nil) (fun z => nomatch z)
      · cases k
end
end Tk

set_option Elab.async false
set_option linter.all false
set_option maxRecDepth 100000
set_option maxHeartbeats 4000000
namespace Tk
open PySem PySem.Spec PyProof.Rows L2
def layT : List (Addr × List V) → Hp → Hp
  | [], H => H
  | (T, vs) :: r, H => layT r (upd H T (.tup vs))
section
variable {X : Cx} {cl : Nat → Addr} {E : XK} {pins : List (Addr × Obj)} {σ : L2.St} {F H : Hp} {s : Shared}
theorem layT_out : ∀ {ts : List (Addr × List V)} {H : Hp} {b : Addr}, (∀ p ∈ ts, p.1 ≠ b) → layT ts H b = H b
  | [], _, _, _ => rfl
  | (T, vs) :: r, H, b, h => by
    show layT r (upd H T (.tup vs)) b = H b
    rw [layT_out fun p hp => h p (List.mem_cons_of_mem _ hp), upd_ne (Ne.symm (h _ List.mem_cons_self))]
theorem layT_in : ∀ {ts : List (Addr × List V)} {H : Hp} {T : Addr} {vs : List V}, (ts.map (·.1)).Nodup → (T, vs) ∈ ts → layT ts H T = some (.tup vs)
  | [], _, _, _, _, h => nomatch h
  | (T', vs') :: r, H, T, vs, n, h => by
    have nn := List.nodup_cons.mp n
    show layT r (upd H T' (.tup vs')) T = _
    rcases List.mem_cons.mp h with e | h
    · injection e with e1 e2
      subst e1 e2
      rw [layT_out fun p hp e => nn.1 (List.mem_map.mpr ⟨p, hp, e⟩), upd_same]
    · exact layT_in nn.2 h
theorem layT_grow : ∀ {ts : List (Addr × List V)} {F H : Hp}, Same F H → (ts.map (·.1)).Nodup → (∀ p ∈ ts, H p.1 = none) → Grow F H (layT ts F) (layT ts H)
  | [], _, _, h, _, _ => Grow.refl h
  | (T, vs) :: r, F, H, h, n, hn => by
    have nn := List.nodup_cons.mp n
    have g := Grow.new (u := .tup vs) h (hn _ List.mem_cons_self)
    refine g.trans (layT_grow g.fh nn.2 fun p hp => ?_)
    rw [upd_ne fun e => nn.1 (List.mem_map.mpr ⟨p, hp, e⟩)]
    exact hn p (List.mem_cons_of_mem _ hp)
theorem Inv.lay (I : Inv X pins σ H s) {H' : Hp} {h' : Heap} {t' : Nat} (k : ∀ b u, s.heap.get? b = some u → h'.get? b = some u) (hH : ∀ b, b < s.heap.objs.size → H' b = H b) (hok : HOk X.prog X.w H' h') : Inv X pins σ H' { s with heap := h', toks := t' } := by
  refine I.un ⟨fun b o e _ _ _ => k b o e, fun b o e _ _ _ => ⟨o.slots, k b o e⟩, fun b o e n _ => ?_, fun b o e _ => ⟨o, k b o e⟩, fun b xs e => ?_, fun b o u e => ?_, fun b ps e => ?_⟩ hok
  · rw [hH b (Heap.lt_size e)]; exact n
  · rw [hH b (I.hok.lt e)]; exact e
  · rw [hH b (I.hok.lt e)]; exact e
  · exact ⟨#[], by rw [hH b (I.hok.lt e), e]; simp⟩
theorem zip_mem {ts : List Addr} {rows : List (List V)} (hl : ts.length = rows.length) : (ts.zip rows).map (·.1) = ts := by
  rw [List.map_fst_zip]
  omega
theorem Inv.layZip (I : Inv X pins σ H s) {h' : Heap} {t' : Nat} (k : ∀ b u, s.heap.get? b = some u → h'.get? b = some u) {ts : List Addr} {rows : List (List V)} {L : Addr} {its : List Value} {c : Nat} (hlen : ts.length = rows.length) (nd : (L :: ts).Nodup)
    (hge : ∀ a ∈ L :: ts, s.heap.objs.size ≤ a) (htup : ∀ (j : Nat) T row, ts[j]? = some T → rows[j]? = some row → ∃ us : List Value, Vals row us ∧ IsTup h' T us.toArray ∧ row.length ≤ sizeLine)
    (hl : h'.get? L = some { cls := .type "list", data := .seq its.toArray c }) (hv : Vals (ts.map V.ref) its) (hz : ts.length ≤ sizeLine) : Inv X pins σ (upd (layT (ts.zip rows) H) L (.lst (ts.map V.ref))) { s with heap := h', toks := t' } := by
  have nn := List.nodup_cons.mp nd
  have zm := zip_mem hlen
  have old : ∀ b, b < s.heap.objs.size → upd (layT (ts.zip rows) H) L (.lst (ts.map V.ref)) b = H b := fun b hb => by
    rw [upd_ne fun (e : b = L) => absurd (hge L List.mem_cons_self) (by rw [← e]; omega), layT_out fun p hp e => ?_]
    have := hge p.1 (List.mem_cons_of_mem _ (by rw [← zm]; exact List.mem_map.mpr ⟨p, hp, rfl⟩))
    rw [e] at this
    omega
  refine Inv.lay I k old fun b o e => ?_
  by_cases hb : b < s.heap.objs.size
  · rw [old b hb] at e
    exact (I.hok b o e).stay (fun c u _ q => k c u q) (fun c q => by rw [old c (I.hok.lt q)]; exact q) fun c xs q => by rw [old c (I.hok.lt q)]; exact q
  · have hn : H b = none := I.hok.fresh (Nat.le_of_not_lt hb)
    by_cases hL : b = L
    · subst hL
      rw [upd_same] at e
      cases e
      exact ⟨by rw [List.length_map]; exact hz, its, c, hv, hl⟩
    · rw [upd_ne hL] at e
      by_cases hm : ∃ p ∈ ts.zip rows, p.1 = b
      · obtain ⟨⟨T, row⟩, hp, eT⟩ := hm
        have eT' : T = b := eT
        subst eT'
        rw [layT_in (by rw [zm]; exact nn.2) hp] at e
        cases e
        obtain ⟨j, hj⟩ := List.getElem?_of_mem hp
        rw [List.getElem?_zip_eq_some] at hj
        obtain ⟨us, hu, ht, hr⟩ := htup j _ _ hj.1 hj.2
        exact ⟨hr, us, hu, ht⟩
      · rw [layT_out fun p hp eq => hm ⟨p, hp, eq⟩, hn] at e
        cases e
end
end Tk

set_option Elab.async false
set_option linter.all false
set_option maxRecDepth 100000
set_option maxHeartbeats 4000000
namespace Tk
open PySem PySem.Spec PyProof.Rows L2
/-- a list or a tuple -/
def SqB (K : PySem.W.Frag) (H : Hp) (x : V) (xs : List V) : Prop := ∃ a, x = .ref a ∧ (SqL K H a xs ∨ SqT K H a xs)
theorem vals2' {x y : V} {us : List Value} (r : Vals [x, y] us) : ∃ u w', us = [u, w'] ∧ RelV x u ∧ RelV y w' := vals2 r
theorem vals3' {x y z : V} {us : List Value} (r : Vals [x, y, z] us) : ∃ u w' t, us = [u, w', t] ∧ RelV x u ∧ RelV y w' ∧ RelV z t := by
  cases r with
  | cons a r =>
    obtain ⟨u, w', rfl, b, c⟩ := vals2 r
    exact ⟨_, u, w', rfl, a, b, c⟩
theorem vals_refs : ∀ ts : List Addr, Vals (ts.map V.ref) (ts.map Value.ref)
  | [] => .nil
  | _ :: ts => .cons rfl (vals_refs ts)
theorem vals_of_get : ∀ {xs : List V} {us : List Value}, xs.length = us.length → (∀ (j : Nat) x u, xs[j]? = some x → us[j]? = some u → RelV x u) → Vals xs us
  | [], [], _, _ => .nil
  | [], _ :: _, h, _ => by cases h
  | _ :: _, [], h, _ => by cases h
  | x :: xs, u :: us, h, g => .cons (g 0 x u rfl rfl) (vals_of_get (by simpa using h) fun j a b ha hb => g (j + 1) a b (by simpa using ha) (by simpa using hb))
section
variable {X : Cx} {pins : List (Addr × Obj)} {σ : L2.St} {H : Hp} {s : Shared}
theorem src_begins (I : Inv X pins σ H s) {x : V} {u : Value} {xs : List V} (h : SqB X.K H x xs) (r : RelV x u) : ∃ (a : Addr) (its : Array Value) (o : Obj) (Hs : Heap → Prop), u = .ref a ∧ a < s.heap.objs.size ∧ Vals xs its.toList ∧ xs.length ≤ sizeLine ∧ Begins (.ref a) o Hs ∧ Hs s.heap ∧
    ∀ (A : Around) (it : Addr), A.handled = none → a ≠ it → ∃ St : Nat → Heap → Prop, Draws X.prog X.w A it [it, a] its.size (fun i v => its[i]? = some v) St ∧ ∀ h', h'.get? it = some o → Hs h' → St 0 h' := by
  obtain ⟨a, rfl, hq⟩ := h
  cases r
  rcases hq with hq | hq
  · obtain ⟨its, rv, pl, hz⟩ := I.list hq
    have hl := pl.isList
    obtain ⟨o, ho, _⟩ := id hl
    exact ⟨a, its.toArray, _, _, rfl, Heap.lt_size ho, by simpa using rv, hz, begins_list a its.toArray, hl, fun A it hh hne => ⟨_, Draws.list hh it a hne its.toArray, fun h' e hs => ⟨⟨_, e, rfl, rfl⟩, hs⟩⟩⟩
  · obtain ⟨its, rv, pl, hz⟩ := I.tuple hq
    have hl : s.heap.IsTuple a its.toArray := pl
    obtain ⟨o, ho, _⟩ := id hl
    exact ⟨a, its.toArray, _, _, rfl, Heap.lt_size ho, by simpa using rv, hz, begins_tuple a its.toArray, hl, fun A it hh hne => ⟨_, Draws.tuple hh it a hne its.toArray, fun h' e hs => ⟨⟨_, e, rfl, rfl⟩, hs⟩⟩⟩
end
section
variable {cl : Nat → Addr}
inductive RepRows (K : PySem.W.Frag) (cl : Nat → Addr) (F : Hp) : List (List V) → List (List D) → Prop
  | nil : RepRows K cl F [] []
  | cons {r : List V} {rs : List (List V)} {d : List D} {ds : List (List D)} : Reps K cl F r d → RepRows K cl F rs ds → RepRows K cl F (r :: rs) (d :: ds)
theorem RepRows.mono {K : PySem.W.Frag} {F F' : Hp} (s : Same F F') : ∀ {rs : List (List V)} {ds : List (List D)}, RepRows K cl F rs ds → RepRows K cl F' rs ds
  | _, _, .nil => .nil
  | _, _, .cons a b => .cons (a.mono s) (RepRows.mono s b)
theorem RepRows.length {K : PySem.W.Frag} {F : Hp} : ∀ {rs : List (List V)} {ds : List (List D)}, RepRows K cl F rs ds → rs.length = ds.length
  | _, _, .nil => rfl
  | _, _, .cons a b => by rw [List.length_cons, List.length_cons, RepRows.length b]
theorem RepRows.zip2 {K : PySem.W.Frag} {F : Hp} : ∀ {xs ys : List V} {ds es : List D}, Reps K cl F xs ds → Reps K cl F ys es → RepRows K cl F (List.zipWith (fun x y => [x, y]) xs ys) (List.zipWith (fun x y => [x, y]) ds es)
  | _, _, _, _, .nil, _ => .nil
  | _, _, _, _, .cons _ _, .nil => .nil
  | _, _, _, _, .cons a b, .cons c d => .cons (.cons a (.cons c .nil)) (RepRows.zip2 b d)
theorem RepRows.snoc {K : PySem.W.Frag} {F : Hp} : ∀ {rs : List (List V)} {ds : List (List D)} {xs : List V} {es : List D}, RepRows K cl F rs ds → Reps K cl F xs es → RepRows K cl F (List.zipWith (fun r z => r ++ [z]) rs xs) (List.zipWith (fun r z => r ++ [z]) ds es)
  | _, _, _, _, .nil, _ => .nil
  | _, _, _, _, .cons _ _, .nil => .nil
  | _, _, _, _, .cons a b, .cons c d => .cons (a.append (.cons c .nil)) (RepRows.snoc b d)
theorem rows_own {K : PySem.W.Frag} {F H : Hp} : ∀ {ts : List Addr} {rs : List (List V)} {ds : List (List D)}, RepRows K cl F rs ds → ts.length = rs.length → (∀ p ∈ ts.zip rs, F p.1 = some (.tup p.2)) → ROwns K cl F H (ts.map V.ref) (ds.map fun r => O.sh (.tup r)) []
  | [], _, _, .nil, _, _ => .nil
  | _ :: _, _, _, .nil, h, _ => by cases h
  | [], _, _, .cons _ _, h, _ => by cases h
  | t :: ts, _, _, .cons a b, h, g => .cons (fp := []) (.sh (.tup (.inl (.inl (g _ List.mem_cons_self))) a)) (rows_own b (by simpa using h) fun p hp => g p (List.mem_cons_of_mem _ hp))
theorem lay_fin {K : PySem.W.Frag} {F H : Hp} {rs : List (List V)} {ds : List (List D)} {Q : VK} (sm : Same F H) (fin : Fin K cl F H (.lst (ds.map fun r => .sh (.tup r))) Q) (r : RepRows K cl F rs ds) {ts : List Addr} {l : Addr} (hl : ts.length = rs.length) (nd : (l :: ts).Nodup) (hn : ∀ a ∈ l :: ts, H a = none) :
    Q (.ref l) (upd (layT (ts.zip rs) H) l (.lst (ts.map V.ref))) := by
  have nn := List.nodup_cons.mp nd
  have zm := zip_mem hl
  have g := layT_grow (ts := ts.zip rs) sm (by rw [zm]; exact nn.2) fun p hp => hn _ (List.mem_cons_of_mem _ (by rw [← zm]; exact List.mem_map.mpr ⟨p, hp, rfl⟩))
  have hl0 : layT (ts.zip rs) H l = none := by
    rw [layT_out fun p hp e => nn.1 (by rw [← zm]; exact List.mem_map.mpr ⟨p, hp, e⟩)]
    exact hn l List.mem_cons_self
  have g2 := g.trans (Grow.newO (u := .lst (ts.map V.ref)) g.fh hl0)
  refine fin _ _ _ [l] g2 (.lst upd_same (g.fh.free hl0) (rows_own (r.mono g.le) hl fun p hp => layT_in (by rw [zm]; exact nn.2) hp)) (fun a ha => by rw [List.mem_singleton.mp ha]; exact hn l List.mem_cons_self) (by simp)
theorem seq_sq {K : PySem.W.Frag} {F H : Hp} {v : V} {d : D} {ds : List D} (sm : Same F H) (r : Rep K cl F v d) (h : seq? d = some ds) : ∃ xs, SqB K H v xs ∧ Reps K cl F xs ds := by
  cases d with
  | lst xs =>
    cases h
    cases r with
    | lst a b => exact ⟨_, ⟨_, rfl, .inl (.inl (.inl (sm _ _ a)))⟩, b⟩
  | tup xs =>
    cases h
    cases r with
    | tup a b => exact ⟨_, ⟨_, rfl, .inr (seqT sm a)⟩, b⟩
  | scr xs =>
    cases h
    cases r with
    | scr a b => exact ⟨_, ⟨_, rfl, .inl (sm.seq a)⟩, b⟩
  | _ => cases h
end


def rowsV2 (xs1 xs2 : List V) : List (List V) := List.zipWith (fun x y => [x, y]) xs1 xs2
def rowsD2 (ds1 ds2 : List D) : List (List D) := List.zipWith (fun x y => [x, y]) ds1 ds2
def tLZ2 (K : PySem.W.Frag) (ta : TA) : TE := fun σ H Q => ta σ H fun vs H1 => ∃ v1 v2 xs1 xs2, vs = [v1, v2] ∧ SqB K H1 v1 xs1 ∧ SqB K H1 v2 xs2 ∧
  ∀ (ts : List Addr) (l : Addr), ts.length = (rowsV2 xs1 xs2).length → (l :: ts).Nodup → (∀ a ∈ l :: ts, H1 a = none) → Q (.ref l) (upd (layT (ts.zip (rowsV2 xs1 xs2)) H1) l (.lst (ts.map V.ref)))
theorem rowsV2_get {xs1 xs2 : List V} {j : Nat} {row : List V} (h : (rowsV2 xs1 xs2)[j]? = some row) : ∃ x1 x2, xs1[j]? = some x1 ∧ xs2[j]? = some x2 ∧ row = [x1, x2] := by
  unfold rowsV2 at h
  rw [List.getElem?_zipWith] at h
  cases h1 : xs1[j]? with
  | none => simp [h1] at h
  | some x1 =>
    cases h2 : xs2[j]? with
    | none => simp [h1, h2] at h
    | some x2 =>
      simp [h1, h2] at h
      exact ⟨x1, x2, rfl, rfl, h.symm⟩
section
variable {X : Cx} {cl : Nat → Addr} {E : XK}
theorem pe_lz2 {e1 e2 : Expr} {ta : TA} {p p2 q pos : Pos} (hg : Gl X "list") (hm : X.mg "list" = none) (hg2 : Gl X "zip") (hm2 : X.mg "zip" = none) (hc : X.calm = true) (ha : PA X [e1, e2] ta)
    (hs : starEach [e1, e2] X.env = (false, eval e1 X.env) :: starEach [e2] X.env := by rfl) (hpl : (backTo q (starEach [e2] X.env)).any (·.1) = false := by rfl) :
    PE X (.Call (.Name "list" p) [.Call (.Name "zip" p2) [e1, e2] [] q] [] pos) (tLZ2 X.K ta) := by
  refine ⟨fun pins s σ H Q I h => ?_⟩
  refine Call_ (ld_blt (u := .type "list") I hg hm (by decide +kernel) ?_)
  refine PyProof.Rows.callWith_type1 (PyProof.Rows.args_cons ?_ rfl) rfl rfl
  refine Call_ (ld_blt I hg2 hm2 PyProof.Rows.boot_zip ?_)
  refine PyProof.Rows.callWith_type1 (thn (ha.run q pins s σ H _ I h) fun us s1 ⟨vs, H1, I1, r1, q1⟩ => ?_) hs hpl
  obtain ⟨v1, v2, xs1, xs2, ex, hq1, hq2, q1⟩ := q1
  subst ex
  obtain ⟨u1, u2, rfl, ru1, ru2⟩ := vals2' r1
  obtain ⟨a1, its1, o1, St01, rfl, la1, rv1, hz1, B1, hS1, dr1⟩ := src_begins I1 hq1 ru1
  obtain ⟨a2, its2, o2, St02, rfl, la2, rv2, hz2, B2, hS2, dr2⟩ := src_begins I1 hq2 ru2
  refine zip_begins2 B1 B2 hS1 hS2 fun h' hz hTI hTO g1 g2 hsz hk => ?_
  refine PyProof.Rows.args_nil ?_
  obtain ⟨St1, D1, st1⟩ := dr1 X.A.in1.in1.in1 s1.heap.objs.size (I1.ok.hd hc) (Nat.ne_of_lt la1)
  obtain ⟨St2, D2, st2⟩ := dr2 X.A.in1.in1.in1 (s1.heap.objs.size + 1) (I1.ok.hd hc) (Nat.ne_of_lt (Nat.lt_of_lt_of_le la2 (Nat.le_add_right _ _)))
  have lens : xs1.length = its1.size ∧ xs2.length = its2.size := ⟨by rw [rv1.length]; simp, by rw [rv2.length]; simp⟩
  refine call_list_zip2 (s := { s1 with heap := h' }) (zip_sep2 (N := s1.heap.objs.size) (fp1 := [a1]) (fp2 := [a2]) (fun b hb => by rw [List.mem_singleton.mp hb]; exact la1) (fun b hb => by rw [List.mem_singleton.mp hb]; exact la2)) D1 D2 (by have := lens; omega) hz hTI ⟨_, _, hTO⟩ (st1 h' g1 (B1.keeps _ _ hS1 hk)) (st2 h' g2 (B2.keeps _ _ hS2 hk)) ?_
    ?_ ?_ s1.heap.objs.size (by show s1.heap.objs.size ≤ h'.objs.size; omega) fun h2 tk acc c hk2 hL hsa hit hnd => ?_
  · show _ < h'.objs.size ∧ _ < h'.objs.size ∧ _ < h'.objs.size ∧ _ < h'.objs.size
    rw [hsz]
    refine ⟨Nat.add_lt_add_left (by decide) _, Nat.add_lt_add_left (by decide) _, Nat.lt_add_of_pos_right (by decide), Nat.add_lt_add_left (by decide) _⟩
  · intro b hb
    show b < h'.objs.size
    rw [hsz]
    rcases List.mem_cons.mp hb with e | e
    · rw [e]; exact Nat.lt_add_of_pos_right (by decide)
    · rw [List.mem_singleton.mp e]; exact Nat.lt_of_lt_of_le la1 (Nat.le_add_right _ _)
  · intro b hb
    show b < h'.objs.size
    rw [hsz]
    rcases List.mem_cons.mp hb with e | e
    · rw [e]; exact Nat.add_lt_add_left (by decide) _
    · rw [List.mem_singleton.mp e]; exact Nat.lt_of_lt_of_le la2 (Nat.le_add_right _ _)
  -- the tuples
  have hn : acc.size = (rowsV2 xs1 xs2).length := by
    rw [hsa]
    simp only [rowsV2, List.length_zipWith]
    have := lens
    omega
  obtain ⟨ts, hts⟩ : ∃ ts : List Addr, ts = acc.toList.map fun (v : Value) => match v with | .ref a => a | _ => 0 := ⟨_, rfl⟩
  have hacc : acc.toList = ts.map Value.ref := by
    rw [hts, List.map_map]
    refine ((List.map_congr_left fun v hv => ?_).trans (List.map_id _)).symm
    obtain ⟨j, hj⟩ := List.getElem?_of_mem hv
    obtain ⟨T, y1, y2, e, _⟩ := hit j v (by simpa using hj)
    subst e
    rfl
  have hget : ∀ (j : Nat) T, ts[j]? = some T → acc[j]? = some (Value.ref T) := fun j T hj => by
    rw [← Array.getElem?_toList, hacc, List.getElem?_map, hj]
    rfl
  have htl : ts.length = (rowsV2 xs1 xs2).length := by rw [← hn, hts]; simp
  have hvals : Vals (ts.map V.ref) acc.toList := by rw [hacc]; exact vals_refs ts
  have kp : ∀ b u, s1.heap.get? b = some u → h2.get? b = some u := fun b u e => by
    have hlt := Heap.lt_size e
    exact hk2 b u (Nat.ne_of_lt (Nat.lt_of_lt_of_le hlt (Nat.le_add_right _ _))) (Nat.ne_of_lt (Nat.lt_of_lt_of_le hlt (Nat.le_add_right _ _))) (Nat.ne_of_lt hlt) (Nat.ne_of_lt (Nat.lt_of_lt_of_le hlt (Nat.le_add_right _ _))) (hk b u e)
  have hge : ∀ a ∈ h'.objs.size :: ts, s1.heap.objs.size ≤ a := fun a ha => by
    rcases List.mem_cons.mp ha with e | ha
    · rw [e, hsz]; exact Nat.le_add_right _ _
    · obtain ⟨j, hj⟩ := List.getElem?_of_mem ha
      obtain ⟨T, y1, y2, e, _, _, _, hN, _⟩ := hit j _ (hget j a hj)
      injection e with e
      rw [e]
      exact hN
  have ndt : (h'.objs.size :: ts).Nodup := by
    refine List.nodup_cons.mpr ⟨fun ha => ?_, ?_⟩
    · obtain ⟨j, hj⟩ := List.getElem?_of_mem ha
      obtain ⟨T, y1, y2, e, _, _, _, _, hne⟩ := hit j _ (hget j _ hj)
      injection e with e
      exact hne e.symm
    · rw [hacc] at hnd
      exact List.Pairwise.of_map Value.ref (fun a b h e => h (e ▸ rfl)) hnd
  have I2 := Inv.layZip I1 (h' := h2) (t' := tk) kp htl ndt hge (fun j T row hT hrow => by
    obtain ⟨x1, x2, ex1, ex2, rfl⟩ := rowsV2_get hrow
    obtain ⟨T', y1, y2, e, p1, p2, ht, _, _⟩ := hit j _ (hget j T hT)
    injection e with e
    subst e
    obtain ⟨w1, hw1, r1⟩ := rv1.get ex1
    rw [Array.getElem?_toList] at hw1
    have e1 : w1 = y1 := Option.some.inj (hw1.symm.trans p1)
    subst e1
    obtain ⟨w2, hw2, r2⟩ := rv2.get ex2
    rw [Array.getElem?_toList] at hw2
    have e2 : w2 = y2 := Option.some.inj (hw2.symm.trans p2)
    subst e2
    exact ⟨[w1, w2], .cons r1 (.cons r2 (.nil)), ⟨_, ht, rfl, _, rfl⟩, by show 2 ≤ sizeLine; decide⟩) hL hvals (by rw [htl, ← hn, hsa]; have := lens; omega)
  exact ⟨.ref h'.objs.size, _, I2, rfl, q1 ts h'.objs.size htl ndt fun a ha => I1.hok.fresh (hge a ha)⟩
def zipO2 : List D → Option O
  | [d1, d2] => match seq? d1, seq? d2 with
    | some ds1, some ds2 => some (.lst ((rowsD2 ds1 ds2).map fun r => .sh (.tup r)))
    | _, _ => none
  | _ => none
theorem rows2_reps {K : PySem.W.Frag} {F : Hp} {xs1 xs2 : List V} {ds1 ds2 : List D} (r1 : Reps K cl F xs1 ds1) (r2 : Reps K cl F xs2 ds2) : RepRows K cl F (rowsV2 xs1 xs2) (rowsD2 ds1 ds2) := by
  unfold rowsV2 rowsD2
  exact RepRows.zip2 r1 r2
theorem m_lz2 {e1 e2 : Expr} {f : Env → Res (List D)} {p p2 q pos : Pos} (hg : Gl X "list") (hm : X.mg "list" = none) (hg2 : Gl X "zip") (hm2 : X.mg "zip" = none) (hc : X.calm = true) (ha : PA X [e1, e2] (tA X.K cl E f))
    (hs : starEach [e1, e2] X.env = (false, eval e1 X.env) :: starEach [e2] X.env := by rfl) (hpl : (backTo q (starEach [e2] X.env)).any (·.1) = false := by rfl) :
    PE X (.Call (.Name "list" p) [.Call (.Name "zip" p2) [e1, e2] [] q] [] pos) (tO X.K cl E (eN zipO2 f)) := by
  refine PE.imp (pe_lz2 hg hm hg2 hm2 hc ha hs hpl) fun σ H Q ⟨F, fp, ρ, sr, q⟩ => ?_
  refine wp_bindO sr q fun vs ds ρ1 F1 H1 fp1 st1 sr1 rs q1 => ?_
  obtain ⟨o', e, fin⟩ := fin_opt sr1 q1
  unfold zipO2 at e
  split at e
  · rename_i d1 d2
    split at e
    · rename_i ds1 ds2 h1 h2
      cases e
      obtain ⟨v1, v2, rfl, r1, r2⟩ := Reps.two rs
      obtain ⟨xs1, hs1, rs1⟩ := seq_sq sr1.le r1 h1
      obtain ⟨xs2, hs2, rs2⟩ := seq_sq sr1.le r2 h2
      exact ⟨v1, v2, xs1, xs2, rfl, hs1, hs2, fun ts l htl nd hn => lay_fin sr1.le fin (rows2_reps rs1 rs2) htl nd hn⟩
    · cases e
  · cases e
end


def rowsV3 (xs1 xs2 xs3 : List V) : List (List V) := List.zipWith (fun r z => r ++ [z]) (List.zipWith (fun x y => [x, y]) xs1 xs2) xs3
def rowsD3 (ds1 ds2 ds3 : List D) : List (List D) := List.zipWith (fun r z => r ++ [z]) (List.zipWith (fun x y => [x, y]) ds1 ds2) ds3
def tLZ3 (K : PySem.W.Frag) (ta : TA) : TE := fun σ H Q => ta σ H fun vs H1 => ∃ v1 v2 v3 xs1 xs2 xs3, vs = [v1, v2, v3] ∧ SqB K H1 v1 xs1 ∧ SqB K H1 v2 xs2 ∧ SqB K H1 v3 xs3 ∧
  ∀ (ts : List Addr) (l : Addr), ts.length = (rowsV3 xs1 xs2 xs3).length → (l :: ts).Nodup → (∀ a ∈ l :: ts, H1 a = none) → Q (.ref l) (upd (layT (ts.zip (rowsV3 xs1 xs2 xs3)) H1) l (.lst (ts.map V.ref)))
theorem rowsV3_get {xs1 xs2 xs3 : List V} {j : Nat} {row : List V} (h : (rowsV3 xs1 xs2 xs3)[j]? = some row) : ∃ x1 x2 x3, xs1[j]? = some x1 ∧ xs2[j]? = some x2 ∧ xs3[j]? = some x3 ∧ row = [x1, x2, x3] := by
  unfold rowsV3 at h
  rw [List.getElem?_zipWith, List.getElem?_zipWith] at h
  cases h1 : xs1[j]? with
  | none => simp [h1] at h
  | some x1 =>
    cases h2 : xs2[j]? with
    | none => simp [h1, h2] at h
    | some x2 =>
      cases h3 : xs3[j]? with
      | none => simp [h1, h2, h3] at h
      | some x3 =>
        simp [h1, h2, h3] at h
        exact ⟨x1, x2, x3, rfl, rfl, rfl, h.symm⟩
section
variable {X : Cx} {cl : Nat → Addr} {E : XK}
theorem pe_lz3 {e1 e2 e3 : Expr} {ta : TA} {p p2 q pos : Pos} (hg : Gl X "list") (hm : X.mg "list" = none) (hg2 : Gl X "zip") (hm2 : X.mg "zip" = none) (hc : X.calm = true) (ha : PA X [e1, e2, e3] ta)
    (hs : starEach [e1, e2, e3] X.env = (false, eval e1 X.env) :: starEach [e2, e3] X.env := by rfl) (hpl : (backTo q (starEach [e2, e3] X.env)).any (·.1) = false := by rfl) :
    PE X (.Call (.Name "list" p) [.Call (.Name "zip" p2) [e1, e2, e3] [] q] [] pos) (tLZ3 X.K ta) := by
  refine ⟨fun pins s σ H Q I h => ?_⟩
  refine Call_ (ld_blt (u := .type "list") I hg hm (by decide +kernel) ?_)
  refine PyProof.Rows.callWith_type1 (PyProof.Rows.args_cons ?_ rfl) rfl rfl
  refine Call_ (ld_blt I hg2 hm2 PyProof.Rows.boot_zip ?_)
  refine PyProof.Rows.callWith_type1 (thn (ha.run q pins s σ H _ I h) fun us s1 ⟨vs, H1, I1, r1, q1⟩ => ?_) hs hpl
  obtain ⟨v1, v2, v3, xs1, xs2, xs3, ex, hq1, hq2, hq3, q1⟩ := q1
  subst ex
  obtain ⟨u1, u2, u3, rfl, ru1, ru2, ru3⟩ := vals3' r1
  obtain ⟨a1, its1, o1, St01, rfl, la1, rv1, hz1, B1, hS1, dr1⟩ := src_begins I1 hq1 ru1
  obtain ⟨a2, its2, o2, St02, rfl, la2, rv2, hz2, B2, hS2, dr2⟩ := src_begins I1 hq2 ru2
  obtain ⟨a3, its3, o3, St03, rfl, la3, rv3, hz3, B3, hS3, dr3⟩ := src_begins I1 hq3 ru3
  refine zip_begins3 B1 B2 B3 hS1 hS2 hS3 fun h' hz hTI hTO g1 g2 g3 hsz hk => ?_
  refine PyProof.Rows.args_nil ?_
  obtain ⟨St1, D1, st1⟩ := dr1 X.A.in1.in1.in1 s1.heap.objs.size (I1.ok.hd hc) (Nat.ne_of_lt la1)
  obtain ⟨St2, D2, st2⟩ := dr2 X.A.in1.in1.in1 (s1.heap.objs.size + 1) (I1.ok.hd hc) (Nat.ne_of_lt (Nat.lt_of_lt_of_le la2 (Nat.le_add_right _ _)))
  obtain ⟨St3, D3, st3⟩ := dr3 X.A.in1.in1.in1 (s1.heap.objs.size + 2) (I1.ok.hd hc) (Nat.ne_of_lt (Nat.lt_of_lt_of_le la3 (Nat.le_add_right _ _)))
  have lens : xs1.length = its1.size ∧ xs2.length = its2.size ∧ xs3.length = its3.size := ⟨by rw [rv1.length]; simp, by rw [rv2.length]; simp, by rw [rv3.length]; simp⟩
  refine call_list_zip3 (s := { s1 with heap := h' }) (zip_sep3 (N := s1.heap.objs.size) (fp1 := [a1]) (fp2 := [a2]) (fp3 := [a3]) (fun b hb => by rw [List.mem_singleton.mp hb]; exact la1) (fun b hb => by rw [List.mem_singleton.mp hb]; exact la2) (fun b hb => by rw [List.mem_singleton.mp hb]; exact la3)) D1 D2 D3 (by have := lens; omega) hz hTI ⟨_, _, _, hTO⟩ (st1 h' g1 (B1.keeps _ _ hS1 hk)) (st2 h' g2 (B2.keeps _ _ hS2 hk)) (st3 h' g3 (B3.keeps _ _ hS3 hk)) ?_
    ?_ ?_ ?_ s1.heap.objs.size (by show s1.heap.objs.size ≤ h'.objs.size; omega) fun h2 tk acc c hk2 hL hsa hit hnd => ?_
  · show _ < h'.objs.size ∧ _ < h'.objs.size ∧ _ < h'.objs.size ∧ _ < h'.objs.size ∧ _ < h'.objs.size
    rw [hsz]
    refine ⟨Nat.add_lt_add_left (by decide) _, Nat.add_lt_add_left (by decide) _, Nat.lt_add_of_pos_right (by decide), Nat.add_lt_add_left (by decide) _, Nat.add_lt_add_left (by decide) _⟩
  · intro b hb
    show b < h'.objs.size
    rw [hsz]
    rcases List.mem_cons.mp hb with e | e
    · rw [e]; exact Nat.lt_add_of_pos_right (by decide)
    · rw [List.mem_singleton.mp e]; exact Nat.lt_of_lt_of_le la1 (Nat.le_add_right _ _)
  · intro b hb
    show b < h'.objs.size
    rw [hsz]
    rcases List.mem_cons.mp hb with e | e
    · rw [e]; exact Nat.add_lt_add_left (by decide) _
    · rw [List.mem_singleton.mp e]; exact Nat.lt_of_lt_of_le la2 (Nat.le_add_right _ _)
  · intro b hb
    show b < h'.objs.size
    rw [hsz]
    rcases List.mem_cons.mp hb with e | e
    · rw [e]; exact Nat.add_lt_add_left (by decide) _
    · rw [List.mem_singleton.mp e]; exact Nat.lt_of_lt_of_le la3 (Nat.le_add_right _ _)
  -- the tuples
  have hn : acc.size = (rowsV3 xs1 xs2 xs3).length := by
    rw [hsa]
    simp only [rowsV3, List.length_zipWith]
    have := lens
    omega
  obtain ⟨ts, hts⟩ : ∃ ts : List Addr, ts = acc.toList.map fun (v : Value) => match v with | .ref a => a | _ => 0 := ⟨_, rfl⟩
  have hacc : acc.toList = ts.map Value.ref := by
    rw [hts, List.map_map]
    refine ((List.map_congr_left fun v hv => ?_).trans (List.map_id _)).symm
    obtain ⟨j, hj⟩ := List.getElem?_of_mem hv
    obtain ⟨T, y1, y2, y3, e, _⟩ := hit j v (by simpa using hj)
    subst e
    rfl
  have hget : ∀ (j : Nat) T, ts[j]? = some T → acc[j]? = some (Value.ref T) := fun j T hj => by
    rw [← Array.getElem?_toList, hacc, List.getElem?_map, hj]
    rfl
  have htl : ts.length = (rowsV3 xs1 xs2 xs3).length := by rw [← hn, hts]; simp
  have hvals : Vals (ts.map V.ref) acc.toList := by rw [hacc]; exact vals_refs ts
  have kp : ∀ b u, s1.heap.get? b = some u → h2.get? b = some u := fun b u e => by
    have hlt := Heap.lt_size e
    exact hk2 b u (Nat.ne_of_lt (Nat.lt_of_lt_of_le hlt (Nat.le_add_right _ _))) (Nat.ne_of_lt (Nat.lt_of_lt_of_le hlt (Nat.le_add_right _ _))) (Nat.ne_of_lt hlt) (Nat.ne_of_lt (Nat.lt_of_lt_of_le hlt (Nat.le_add_right _ _))) (Nat.ne_of_lt (Nat.lt_of_lt_of_le hlt (Nat.le_add_right _ _))) (hk b u e)
  have hge : ∀ a ∈ h'.objs.size :: ts, s1.heap.objs.size ≤ a := fun a ha => by
    rcases List.mem_cons.mp ha with e | ha
    · rw [e, hsz]; exact Nat.le_add_right _ _
    · obtain ⟨j, hj⟩ := List.getElem?_of_mem ha
      obtain ⟨T, y1, y2, y3, e, _, _, _, _, hN, _⟩ := hit j _ (hget j a hj)
      injection e with e
      rw [e]
      exact hN
  have ndt : (h'.objs.size :: ts).Nodup := by
    refine List.nodup_cons.mpr ⟨fun ha => ?_, ?_⟩
    · obtain ⟨j, hj⟩ := List.getElem?_of_mem ha
      obtain ⟨T, y1, y2, y3, e, _, _, _, _, _, hne⟩ := hit j _ (hget j _ hj)
      injection e with e
      exact hne e.symm
    · rw [hacc] at hnd
      exact List.Pairwise.of_map Value.ref (fun a b h e => h (e ▸ rfl)) hnd
  have I2 := Inv.layZip I1 (h' := h2) (t' := tk) kp htl ndt hge (fun j T row hT hrow => by
    obtain ⟨x1, x2, x3, ex1, ex2, ex3, rfl⟩ := rowsV3_get hrow
    obtain ⟨T', y1, y2, y3, e, p1, p2, p3, ht, _, _⟩ := hit j _ (hget j T hT)
    injection e with e
    subst e
    obtain ⟨w1, hw1, r1⟩ := rv1.get ex1
    rw [Array.getElem?_toList] at hw1
    have e1 : w1 = y1 := Option.some.inj (hw1.symm.trans p1)
    subst e1
    obtain ⟨w2, hw2, r2⟩ := rv2.get ex2
    rw [Array.getElem?_toList] at hw2
    have e2 : w2 = y2 := Option.some.inj (hw2.symm.trans p2)
    subst e2
    obtain ⟨w3, hw3, r3⟩ := rv3.get ex3
    rw [Array.getElem?_toList] at hw3
    have e3 : w3 = y3 := Option.some.inj (hw3.symm.trans p3)
    subst e3
    exact ⟨[w1, w2, w3], .cons r1 (.cons r2 (.cons r3 (.nil))), ⟨_, ht, rfl, _, rfl⟩, by show 3 ≤ sizeLine; decide⟩) hL hvals (by rw [htl, ← hn, hsa]; have := lens; omega)
  exact ⟨.ref h'.objs.size, _, I2, rfl, q1 ts h'.objs.size htl ndt fun a ha => I1.hok.fresh (hge a ha)⟩
def zipO3 : List D → Option O
  | [d1, d2, d3] => match seq? d1, seq? d2, seq? d3 with
    | some ds1, some ds2, some ds3 => some (.lst ((rowsD3 ds1 ds2 ds3).map fun r => .sh (.tup r)))
    | _, _, _ => none
  | _ => none
theorem rows3_reps {K : PySem.W.Frag} {F : Hp} {xs1 xs2 xs3 : List V} {ds1 ds2 ds3 : List D} (r1 : Reps K cl F xs1 ds1) (r2 : Reps K cl F xs2 ds2) (r3 : Reps K cl F xs3 ds3) : RepRows K cl F (rowsV3 xs1 xs2 xs3) (rowsD3 ds1 ds2 ds3) := by
  unfold rowsV3 rowsD3
  exact (RepRows.zip2 r1 r2).snoc r3
theorem m_lz3 {e1 e2 e3 : Expr} {f : Env → Res (List D)} {p p2 q pos : Pos} (hg : Gl X "list") (hm : X.mg "list" = none) (hg2 : Gl X "zip") (hm2 : X.mg "zip" = none) (hc : X.calm = true) (ha : PA X [e1, e2, e3] (tA X.K cl E f))
    (hs : starEach [e1, e2, e3] X.env = (false, eval e1 X.env) :: starEach [e2, e3] X.env := by rfl) (hpl : (backTo q (starEach [e2, e3] X.env)).any (·.1) = false := by rfl) :
    PE X (.Call (.Name "list" p) [.Call (.Name "zip" p2) [e1, e2, e3] [] q] [] pos) (tO X.K cl E (eN zipO3 f)) := by
  refine PE.imp (pe_lz3 hg hm hg2 hm2 hc ha hs hpl) fun σ H Q ⟨F, fp, ρ, sr, q⟩ => ?_
  refine wp_bindO sr q fun vs ds ρ1 F1 H1 fp1 st1 sr1 rs q1 => ?_
  obtain ⟨o', e, fin⟩ := fin_opt sr1 q1
  unfold zipO3 at e
  split at e
  · rename_i d1 d2 d3
    split at e
    · rename_i ds1 ds2 ds3 h1 h2 h3
      cases e
      obtain ⟨v1, v2, v3, rfl, r1, r2, r3⟩ := Reps.three rs
      obtain ⟨xs1, hs1, rs1⟩ := seq_sq sr1.le r1 h1
      obtain ⟨xs2, hs2, rs2⟩ := seq_sq sr1.le r2 h2
      obtain ⟨xs3, hs3, rs3⟩ := seq_sq sr1.le r3 h3
      exact ⟨v1, v2, v3, xs1, xs2, xs3, rfl, hs1, hs2, hs3, fun ts l htl nd hn => lay_fin sr1.le fin (rows3_reps rs1 rs2 rs3) htl nd hn⟩
    · cases e
  · cases e
end

end Tk

set_option Elab.async false
set_option linter.all false
set_option maxRecDepth 100000
set_option maxHeartbeats 4000000
namespace Tk
open PySem PySem.Spec PyProof.Rows L2
/-! ## a comprehension's names, by a check -/
def isFn : ScopeKind → Bool
  | .function => true
  | _ => false
def nkB (a : NameKind) (b : NameKind) : Bool := a == b
def blkB (N : List Str) (sc scope : Scope) (own : List (Str × Nat)) : Bool :=
  isFn scope.kind && (scope.names.all (fun y => decide (scope.names.lookup y.1 = some y.2)) && (own.all (fun p => decide (N[p.2]? = some p.1)) &&
    (scope.names.all (fun y => decide (y.2 = .free → sc.names.lookup y.1 = some .cell ∨ sc.names.lookup y.1 = some .free)) && scope.names.all fun y => decide (y.2 = .local ∨ y.2 = .cell → y.1 ∈ own.map (·.1) ∨ y.1 ∉ N))))
theorem blk_ok {N : List Str} {sc scope : Scope} {own : List (Str × Nat)} (h : blkB N sc scope own = true) : BlkOk N sc scope own := by
  unfold blkB at h
  rw [Bool.and_eq_true, Bool.and_eq_true, Bool.and_eq_true, Bool.and_eq_true] at h
  obtain ⟨h1, h2, h3, h4, h5⟩ := h
  refine ⟨?_, fun y hy => ?_, fun p hp => ?_, fun y hy => ?_, fun y hy => ?_⟩
  · unfold isFn at h1
    split at h1
    · assumption
    · cases h1
  · exact of_decide_eq_true (List.all_eq_true.mp h2 y hy)
  · exact of_decide_eq_true (List.all_eq_true.mp h3 p hp)
  · exact of_decide_eq_true (List.all_eq_true.mp h4 y hy)
  · exact of_decide_eq_true (List.all_eq_true.mp h5 y hy)
/-! ## a def that may be called, with what fills up -/
inductive Fnc (P : Program) (w : World) (K : PySem.W.Frag) (mg : Str → Option Value) (base : Heap) (cl : Nat → Addr) (x : Str) (k : Nat) (dds : List D) (Φ : List O → FRes) : Prop
  | mk {n : Nat} {g : Addr} {fd : FuncData} {ps : List Str} {dvs : List V} {ds : List Value} (ok : FnOk P w K mg base CX0 k g fd ps (spF K cl n Φ)) (hm : mg x = some (.ref g)) (kp : PySem.W.keepIn K (.ref g) = true)
      (hb : Binds K fd ps ds) (hd : Vals dvs ds) (hD : ∀ F, Reps K cl F dvs dds) (hn : ∀ os, Φ os ≠ .no → os.length = n)
/-- an `__init__` of the class cl ci -/
inductive Ini (P : Program) (w : World) (K : PySem.W.Frag) (mg : Str → Option Value) (base : Heap) (cl : Nat → Addr) (x : Str) (ci k : Nat) (Φ : List O → FRes) : Prop
  | mk {n : Nat} {g : Addr} {fd : FuncData} {ps : List Str} (M : Mk K (cl ci) g) (ok : FnOk P w K mg base CX0 k g fd ps (spF K cl n Φ)) (hm : mg x = some (.ref (cl ci)))
      (hb : Binds K fd ps []) (hn : ∀ os, Φ os ≠ .no → os.length = n)
section
variable {X : Cx} {cl : Nat → Addr} {a b c e : Expr} {es : List Expr} {pos : Pos}
theorem m_callF {k : Nat} {dds : List D} {Φ : List O → FRes} {x : Str} {p : Pos} {f : Env → Res (List Ar)} (Fg : Fnc X.prog X.w X.K X.mg X.base cl x k dds Φ) (hr : Room k X.A) (hg : Gl X x) (ha : PA X (e :: es) (tAr X.K cl E0 f))
    (hdb : (x == ("__debug__" : Str)) = false := by decide) (he : starEach (e :: es) X.env = (false, eval e X.env) :: starEach es X.env := by rfl) (hpl : (backTo pos (starEach es X.env)).any (·.1) = false := by rfl) :
    PE X (.Call (.Name x p) (e :: es) [] pos) (tO X.K cl E0 (eCall Φ dds f)) := by
  obtain ⟨ok, hm, kp, hb, hd, hD, hn⟩ := Fg
  exact m_call ok hr hg hm kp hb hd pass0 hn hD ha hdb he hpl
theorem m_makeF {k ci : Nat} {Φ : List O → FRes} {x : Str} {p : Pos} {f : Env → Res (List D)} (Fg : Ini X.prog X.w X.K X.mg X.base cl x ci k Φ) (hr : Room (k + 1) X.A) (hg : Gl X x) (ha : PA X (e :: es) (tA X.K cl E0 f))
    (hdb : (x == ("__debug__" : Str)) = false := by decide) (he : starEach (e :: es) X.env = (false, eval e X.env) :: starEach es X.env := by rfl) (hpl : (backTo pos (starEach es X.env)).any (·.1) = false := by rfl) :
    PE X (.Call (.Name x p) (e :: es) [] pos) (tO X.K cl E0 (eMake ci Φ [] f)) := by
  obtain ⟨M, ok, hm, hb, hn⟩ := Fg
  exact m_make M ok hr hg hm hb .nil pass0 hn (fun _ => .nil) ha hdb he hpl
/-- a module's whole number -/
theorem m_gint {E : XK} {x : Str} {i : Int} (hg : Gl X x) (hm : ∃ t, X.mg x = some (.int i t)) (hd : (x == ("__debug__" : Str)) = false := by decide) : PE X (.Name x pos) (tV X.K cl E (eC (.int i))) := by
  obtain ⟨t, hm⟩ := hm
  exact m_C (pe_glob hg hm (v := .int i) ⟨t, rfl⟩ hd) fun _ => .int i
/-- a op b op' c as a value -/
def eChV (o o' : D → D → Option Bool) (f g h : Env → Res D) : Env → Res D := fun ρ => (tCh o o' f g h ρ).map D.bl
theorem m_chain {E : XK} {op op' : CmpOp} {r r' : R2} {o o' : D → D → Option Bool} {f g h : Env → Res D} (ho : OpR X (compareOp op) r) (hp : PrB X.K cl r o) (ho' : OpR X (compareOp op') r') (hp' : PrB X.K cl r' o')
    (ha : PE X a (tV X.K cl E f)) (hb : PE X b (tV X.K cl E g)) (hc : PE X c (tV X.K cl E h)) (hm : lastMarks [op, op'] [b, c] = false := by with_unfolding_all rfl) :
    PE X (.Compare a [op, op'] [b, c] pos) (tV X.K cl E (eChV o o' f g h)) := by
  refine PE.imp (pe_chain ho ho' ha hb hc hm) fun σ H Q ⟨F, fp, ρ, sr, q⟩ => ?_
  unfold eChV tCh at q
  rw [map_bind] at q
  refine wp_bindV sr q fun x dx ρ1 F1 H1 fp1 st1 sr1 rx q1 => ?_
  rw [map_bind] at q1
  refine wp_bindV sr1 q1 fun y dy ρ2 F2 H2 fp2 st2 sr2 ry q2 => ?_
  have rx2 := rx.mono st2.le dx
  cases k : o dx dy with
  | none => rw [k] at q2; exact q2.elim
  | some b =>
    rw [k] at q2
    refine hp F2 H2 x y dx dy b _ sr2.le rx2 ry k ⟨b, rfl, ?_⟩
    cases b with
    | false => exact iteF (q2 _ F2 H2 fp2 Stp.refl sr2 (.bl false))
    | true =>
      have q2 : wp X.K cl E (rV X.K cl) (((h ρ2).bind fun z r3 => optB (o' dy z) r3).map D.bl) F2 H2 fp2 σ Q := q2
      rw [map_bind] at q2
      refine iteT (wp_bindV sr2 q2 fun z dz ρ3 F3 H3 fp3 st3 sr3 rz q3 => ?_)
      cases k' : o' dy dz with
      | none => rw [k'] at q3; exact q3.elim
      | some b' =>
        rw [k'] at q3
        exact hp' F3 H3 y z dy dz b' _ sr3.le (ry.mono st3.le dy) rz k' (q3 _ F3 H3 fp3 Stp.refl sr3 (.bl b'))
/-- name = [..], frozen at once -/
theorem s_setLcF {E : XK} {kp : List Nat} {i : Nat} {y : Str} {py spos : Pos} {elt tg iter : Expr} {ifs : List Expr} {scope : Scope} {own : List (Str × Nat)} {fi : Env → Res (List D)} {bd : D → Env → Option Env} {t : Env → Res Bool} {el : Env → Res O} (hc : X.calm = true) (hN : X.N.Nodup) (hy : X.N[i]? = some y) (hyl : X.env.scope.names.lookup y = some .local)
    (hsw : swapsWith (.ListComp elt [⟨tg, iter, ifs, 0⟩] scope pos) (some (.Name y py)) spos.line X.env = pure true) (hi : PI X tg iter (tI X.K cl E fi)) (ok : BlkOk X.N X.env.scope scope own)
    (hg : ∀ (s : Shared) (H : Hp) (C : Addr) (ce : List (Str × Addr)) (fp : List Addr), PG (X.blk s H scope (compEnvC scope ce C X.env) fp) tg (tG X.K cl (own.map (·.2)) bd)) (ht : ∀ (s : Shared) (H : Hp) (C : Addr) (ce : List (Str × Addr)) (fp : List Addr), PTs (X.blk s H scope (compEnvC scope ce C X.env) fp) ifs (tT X.K cl E0 t))
    (he : ∀ (s : Shared) (H : Hp) (C : Addr) (ce : List (Str × Addr)) (fp : List Addr), PE (X.blk s H scope (compEnvC scope ce C X.env) fp) elt (tO X.K cl E0 el)) (hk : i ∉ kp := by decide) (hv : (own.map (·.2)).Nodup := by decide) (hs : ∀ x, foldedSetIterable iter X.env x = pure x := by intro _; rfl) :
    PS X (.Assign [.Name y py] (.ListComp elt [⟨tg, iter, ifs, 0⟩] scope pos) spos) (tS X.K cl E kp (sSet i (eO (eV (eComp fi bd t el (own.map (·.2))))))) :=
  s_set_of (ps_setLc hc hN hy hyl hsw hi ok hg ht he hs) hk fun _ _ _ q => comp_read hv (tO_of_tV (tV_of_tO q))
section
variable {P : Program} {w : World} {K : PySem.W.Frag} {mg : Str → Option Value} {base : Heap} {x qual : Str} {params : Arguments} {stm : List Stmt} {scope : Scope} {f : Addr} {N ps : List Str} {k : Nat} {kp : List Nat} {body : Env → SRes}
/-- a def of no default -/
theorem fnc_mk (Fd : ∃ fd, FunD K x qual params stm scope [] [] f fd) (S : FnScope N ps scope) (hm : mg x = some (.ref f))
    (hbody : ∀ (cdv : Value) (A : Around) (outer : List PySem.Env) (s : Shared) (H : Hp) (E : XK), Room k (A.deeper (envOfC qual scope s.heap.objs.size f cdv)) →
      PSs (cxOf CX0 P w K mg base N qual scope f cdv A outer s H E).nox stm (tS K cl E0 kp body))
    (h : ∀ (kV doc pm : Value) (an : Option Addr) (cdv ct : Value) (us : List Value), us.length = ps.length → bindArgs (PySem.W.fnOf x qual params stm scope .none kV doc pm an cdv ct) ⟨us, []⟩ = pure (ps.zip us)) :
    Fnc P w K mg base cl x (k + 1) [] (mk0 ps.length N.length kp body) := by
  obtain ⟨fd, Fd⟩ := Fd
  exact .mk (fn0D Fd S hbody) hm Fd.kp (FunD.bindsN Fd h) .nil (fun _ => .nil) mk0_len
/-- .. of which n are given and the others filled up -/
theorem fncD_mk {dvs : List V} {dds : List D} (n j : Nat) (Fd : ∃ fd, FunD K x qual params stm scope dvs [] f fd) (S : FnScope N ps scope) (hm : mg x = some (.ref f))
    (hbody : ∀ (cdv : Value) (A : Around) (outer : List PySem.Env) (s : Shared) (H : Hp) (E : XK), Room k (A.deeper (envOfC qual scope s.heap.objs.size f cdv)) →
      PSs (cxOf CX0 P w K mg base N qual scope f cdv A outer s H E).nox stm (tS K cl E0 kp body))
    (hd : dvs ≠ []) (hn : n + (dvs.length - j) = ps.length)
    (h : ∀ (T : Addr) (kV doc pm : Value) (an : Option Addr) (cdv ct : Value) (us its : List Value), us.length = n → its.length = dvs.length →
      ∃ k, bindArgs (PySem.W.fnOf x qual params stm scope (.ref T) kV doc pm an cdv ct) ⟨us, []⟩ = seqItems? (.ref T) >>= k ∧ k (some its.toArray) = pure (ps.zip (us ++ its.drop j)))
    (hD : ∀ F, Reps K cl F (dvs.drop j) dds) :
    Fnc P w K mg base cl x (k + 1) dds (mk0 ps.length N.length kp body) := by
  obtain ⟨fd, Fd⟩ := Fd
  obtain ⟨ds, hv, hb⟩ := FunD.binds1 Fd n j hd hn h
  exact .mk (fn0D Fd S hbody) hm Fd.kp hb hv hD mk0_len
/-- an `__init__` of no default -/
theorem ini_mk {C : Str} {ci : Nat} (M : Mk K (cl ci) f) (Fd : ∃ fd, FunD K x qual params stm scope [] [] f fd) (S : FnScope N ps scope) (hm : mg C = some (.ref (cl ci)))
    (hbody : ∀ (cdv : Value) (A : Around) (outer : List PySem.Env) (s : Shared) (H : Hp) (E : XK), Room k (A.deeper (envOfC qual scope s.heap.objs.size f cdv)) →
      PSs (cxOf CX0 P w K mg base N qual scope f cdv A outer s H E).nox stm (tS K cl E0 kp body))
    (h : ∀ (kV doc pm : Value) (an : Option Addr) (cdv ct : Value) (us : List Value), us.length = ps.length → bindArgs (PySem.W.fnOf x qual params stm scope .none kV doc pm an cdv ct) ⟨us, []⟩ = pure (ps.zip us)) :
    Ini P w K mg base cl C ci (k + 1) (mk0 ps.length N.length kp body) := by
  obtain ⟨fd, Fd⟩ := Fd
  exact .mk M (fn0D Fd S hbody) hm (FunD.bindsN Fd h) mk0_len
/-- nothing promised: the bottom of a recursion -/
theorem fnc_no (Fd : ∃ fd, FunD K x qual params stm scope [] [] f fd) (S : FnScope N ps scope) (hm : mg x = some (.ref f))
    (h : ∀ (kV doc pm : Value) (an : Option Addr) (cdv ct : Value) (us : List Value), us.length = ps.length → bindArgs (PySem.W.fnOf x qual params stm scope .none kV doc pm an cdv ct) ⟨us, []⟩ = pure (ps.zip us)) :
    Fnc P w K mg base cl x (k + 1) [] fun _ => .no := by
  obtain ⟨fd, Fd⟩ := Fd
  have b := FunD.bindsN Fd h
  refine .mk (n := ps.length) (Fd.ok S (fun _ _ _ _ h => spF_len h) fun cdv A outer s H vs Q E hr h => ?_) hm Fd.kp b .nil (fun _ => .nil) (fun os h => absurd rfl h)
  obtain ⟨_, _, _, _, _, _, _, q⟩ := h
  exact q.elim
end
end
end Tk

set_option Elab.async false
set_option linter.all false
set_option maxRecDepth 100000
set_option maxHeartbeats 4000000
namespace Tk
open PySem PySem.Spec PyProof.Rows L2
/-! ## the mirrors, unfolded by simp -/
section
variable {ρ r : Env} {i : Nat}
@[simp] theorem slot_0 {x : Option O} : slot (x :: ρ) 0 = x := rfl
@[simp] theorem slot_s {x : Option O} : slot (x :: ρ) (i + 1) = slot ρ i := rfl
@[simp] theorem eVar_slot : eVar i ρ = match slot ρ i with
    | some (.sh d) => .ok d ρ
    | _ => .no := by
  unfold eVar slot
  cases ρ[i]? with
  | none => rfl
  | some x => cases x with
    | none => rfl
    | some o => cases o <;> rfl
@[simp] theorem eFrz_slot : eFrz i ρ = match slot ρ i with
    | some o => .ok (frz o) (ρ.set i (some (.sh (frz o))))
    | _ => .no := by
  unfold eFrz slot
  cases ρ[i]? with
  | none => rfl
  | some x => cases x <;> rfl
theorem eVar_ok {d : D} (h : slot ρ i = some (.sh d)) : eVar i ρ = .ok d ρ := by rw [eVar_slot, h]
theorem eFrz_ok {o : O} (h : slot ρ i = some o) : eFrz i ρ = .ok (frz o) (ρ.set i (some (.sh (frz o)))) := by rw [eFrz_slot, h]
@[simp] theorem eC_ev {d : D} : eC d ρ = .ok d ρ := rfl
@[simp] theorem eV_ev {f : Env → Res O} : eV f ρ = (f ρ).map frz := rfl
@[simp] theorem eO_ev {f : Env → Res D} : eO f ρ = (f ρ).map O.sh := rfl
@[simp] theorem e1_ev {o : D → Option O} {f : Env → Res D} : e1 o f ρ = (f ρ).bind fun x r => opt (o x) r := rfl
@[simp] theorem e2_ev {o : D → D → Option O} {f g : Env → Res D} : e2 o f g ρ = (f ρ).bind fun x r => (g r).bind fun y r' => opt (o x y) r' := rfl
@[simp] theorem eN_ev {o : List D → Option O} {f : Env → Res (List D)} : eN o f ρ = (f ρ).bind fun x r => opt (o x) r := rfl
@[simp] theorem t2_ev {o : D → D → Option Bool} {f g : Env → Res D} : t2 o f g ρ = (f ρ).bind fun x r => (g r).bind fun y r' => optB (o x y) r' := rfl
@[simp] theorem tCh_ev {o o' : D → D → Option Bool} {f g h : Env → Res D} : tCh o o' f g h ρ = (f ρ).bind fun x r => (g r).bind fun y r1 => (optB (o x y) r1).bind fun k r2 => if k = true then (h r2).bind fun z r3 => optB (o' y z) r3 else .ok false r2 := rfl
@[simp] theorem eChV_ev {o o' : D → D → Option Bool} {f g h : Env → Res D} : eChV o o' f g h ρ = (tCh o o' f g h ρ).map D.bl := rfl
@[simp] theorem tTru_ev {f : Env → Res D} : tTru f ρ = (f ρ).bind fun x r => optB (truD x) r := rfl
@[simp] theorem tAn_ev {f g : Env → Res Bool} : tAn f g ρ = (f ρ).bind fun k r => if k = true then g r else .ok false r := rfl
@[simp] theorem tOr_ev {f g : Env → Res Bool} : tOr' f g ρ = (f ρ).bind fun k r => if k = true then .ok true r else g r := rfl
@[simp] theorem tNt_ev {f : Env → Res Bool} : tNt f ρ = (f ρ).map (!·) := rfl
@[simp] theorem tTrue_ev : tTrue ρ = .ok true ρ := rfl
@[simp] theorem eAn_ev {f g : Env → Res D} : eAn f g ρ = (f ρ).bind fun x r => (optB (bl? x) r).bind fun k r => if k = true then g r else .ok (.bl false) r := rfl
@[simp] theorem eOr_ev {f g : Env → Res D} : eOr f g ρ = (f ρ).bind fun x r => (optB (bl? x) r).bind fun k r => if k = true then .ok (.bl true) r else g r := rfl
@[simp] theorem eNt_ev {f : Env → Res D} : eNt f ρ = (f ρ).bind fun x r => (optB (bl? x) r).bind fun k r => .ok (.bl (!k)) r := rfl
@[simp] theorem eIf_ev {t : Env → Res Bool} {f g : Env → Res D} : eIf t f g ρ = (t ρ).bind fun k r => if k = true then f r else g r := rfl
@[simp] theorem aN_ev : aN ρ = .ok [] ρ := rfl
@[simp] theorem aC_ev {f : Env → Res D} {g : Env → Res (List D)} : aC f g ρ = (f ρ).bind fun x r => (g r).bind fun xs r' => .ok (x :: xs) r' := rfl
@[simp] theorem oN_ev : oN ρ = .ok [] ρ := rfl
@[simp] theorem oC_ev {f : Env → Res O} {g : Env → Res (List O)} : oC f g ρ = (f ρ).bind fun x r => (g r).bind fun xs r' => .ok (x :: xs) r' := rfl
@[simp] theorem pN_ev : pN ρ = .ok none ρ := rfl
@[simp] theorem pS_ev {f : Env → Res D} : pS f ρ = (f ρ).bind fun x r => match int? x with
  | some i => .ok (some i) r
  | none => .no := rfl
@[simp] theorem eSl_ev {o : D → Option Int → Option Int → Option O} {f : Env → Res D} {g h : Env → Res (Option Int)} : eSl o f g h ρ = (f ρ).bind fun x r => (g r).bind fun l r1 => (h r1).bind fun u r2 => opt (o x l u) r2 := rfl
@[simp] theorem rN_ev : rN ρ = .ok [] ρ := rfl
@[simp] theorem rC_ev {f : Env → Res D} {g : Env → Res (List Ar)} : rC f g ρ = (f ρ).bind fun x r => (g r).bind fun xs r' => .ok (.val x :: xs) r' := rfl
theorem rM_ok {o : O} {g : Env → Res (List Ar)} (h : slot ρ i = some o) : rM i g ρ = (g ρ).bind fun xs r' => .ok (.mu i :: xs) r' := by
  unfold rM
  rw [h]
@[simp] theorem rM_ev {g : Env → Res (List Ar)} : rM i g ρ = match slot ρ i with
  | some _ => (g ρ).bind fun xs r' => .ok (.mu i :: xs) r'
  | none => .no := rfl
@[simp] theorem eCall_ev {Φ : List O → FRes} {dds : List D} {f : Env → Res (List Ar)} : eCall Φ dds f ρ = (f ρ).bind fun as r => callA Φ dds as r := rfl
@[simp] theorem callA_ev {Φ : List O → FRes} {dds : List D} {as : List Ar} : callA Φ dds as r = match insA as r with
    | none => .no
    | some os => match Φ (os ++ dds.map O.sh) with
      | .ok o os' => .ok o (backA as os' (hideA as r))
      | .ex c d os' => .ex c d (backA as os' (hideA as r))
      | .no => .no := rfl
/-- a call that succeeds -/
theorem callA_ok {Φ : List O → FRes} {dds : List D} {as : List Ar} {os os' : List O} {o : O} (h1 : insA as r = some os) (h2 : Φ (os ++ dds.map O.sh) = .ok o os') : callA Φ dds as r = .ok o (backA as os' (hideA as r)) := by
  unfold callA
  rw [h1]
  simp only
  rw [h2]
@[simp] theorem insA_nil : insA [] r = some [] := rfl
@[simp] theorem insA_val {d : D} {as : List Ar} : insA (.val d :: as) r = (insA as r).map (.sh d :: ·) := rfl
@[simp] theorem insA_mu {as : List Ar} : insA (.mu i :: as) r = (slot r i).bind fun o => (insA as (r.set i none)).map (o :: ·) := rfl
@[simp] theorem hideA_nil : hideA [] r = r := rfl
@[simp] theorem hideA_val {d : D} {as : List Ar} : hideA (.val d :: as) r = hideA as r := rfl
@[simp] theorem hideA_mu {as : List Ar} : hideA (.mu i :: as) r = hideA as (r.set i none) := rfl
@[simp] theorem backA_nil {os : List O} : backA [] os r = r := by cases os <;> rfl
@[simp] theorem backA_val {d : D} {o : O} {as : List Ar} {os : List O} : backA (.val d :: as) (o :: os) r = backA as os r := rfl
@[simp] theorem backA_mu {o : O} {as : List Ar} {os : List O} : backA (.mu i :: as) (o :: os) r = (backA as os r).set i (some o) := rfl
/-! statements -/
@[simp] theorem sNil_ev : sNil ρ = .nx ρ := rfl
@[simp] theorem sSet_ev {f : Env → Res O} : sSet i f ρ = sB (f ρ) fun o r => .nx (r.set i (some o)) := rfl
@[simp] theorem sEx_ev {f : Env → Res D} : sEx f ρ = sB (f ρ) fun _ r => .nx r := rfl
@[simp] theorem sRet_ev {f : Env → Res O} : sRet f ρ = sB (f ρ) fun o r => .rt o r := rfl
@[simp] theorem sIf_ev {t : Env → Res Bool} {f g : Env → SRes} : sIf t f g ρ = sB (t ρ) fun k r => if k = true then f r else g r := rfl
def sThen (x : SRes) (g : Env → SRes) : SRes := match x with
  | .nx r => g r
  | y => y
@[simp] theorem sThen_nx {g : Env → SRes} : sThen (.nx r) g = g r := rfl
@[simp] theorem sThen_rt {g : Env → SRes} {o : O} : sThen (.rt o r) g = .rt o r := rfl
@[simp] theorem sSeq_ev {f g : Env → SRes} : sSeq f g ρ = sThen (f ρ) g := by
  unfold sSeq sThen
  cases f ρ <;> rfl
@[simp] theorem sPar2_ev {j : Nat} {f : Env → Res (List O)} : sPar [i, j] f ρ = sB (f ρ) fun os r => match os with
  | [o, p] => .nx ((r.set i (some o)).set j (some p))
  | _ => .no := by
  unfold sPar
  cases f ρ with
  | ok os r =>
    simp only [sB_ok]
    split <;> simp_all
  | ex c d r => rfl
  | no => rfl
@[simp] theorem sPar3_ev {j l : Nat} {f : Env → Res (List O)} : sPar [i, j, l] f ρ = sB (f ρ) fun os r => match os with
  | [o, p, q] => .nx (((r.set i (some o)).set j (some p)).set l (some q))
  | _ => .no := by
  unfold sPar
  cases f ρ with
  | ok os r =>
    simp only [sB_ok]
    split <;> simp_all
  | ex c d r => rfl
  | no => rfl
@[simp] theorem sAsg_ev {b : D → Env → Option Env} {f : Env → Res D} : sAsg b f ρ = sB (f ρ) fun d r => match b d r with
  | some r' => .nx r'
  | none => .no := by
  unfold sAsg
  cases f ρ with
  | ok d r => first | rfl | (simp only [sB_ok]; cases b d r <;> rfl)
  | ex c d r => rfl
  | no => rfl
@[simp] theorem gN_ev {d : D} : gN i d ρ = some (ρ.set i (some (.sh d))) := rfl
@[simp] theorem gT_tup {b : List D → Env → Option Env} {ds : List D} : gT b (.tup ds) ρ = b ds ρ := rfl
@[simp] theorem gTL_tup {b : List D → Env → Option Env} {ds : List D} : gTL b (.tup ds) ρ = b ds ρ := rfl
@[simp] theorem gTL_lst {b : List D → Env → Option Env} {ds : List D} : gTL b (.lst ds) ρ = b ds ρ := rfl
@[simp] theorem gE_nil : gE [] ρ = some ρ := rfl
@[simp] theorem gC_gN {c : List D → Env → Option Env} {d : D} {ds : List D} : gC (gN i) c (d :: ds) ρ = c ds (ρ.set i (some (.sh d))) := rfl
@[simp] theorem iSeq_ev {f : Env → Res D} : iSeq f ρ = (f ρ).bind fun d r => optL (seq? d) r := rfl
@[simp] theorem iN_ev {o : List D → Option (List D)} {f : Env → Res (List D)} : iN o f ρ = (f ρ).bind fun ds r => optL (o ds) r := rfl
@[simp] theorem sFor_ev {fi : Env → Res (List D)} {b : D → Env → Option Env} {body : Env → SRes} : sFor fi b body ρ = sB (fi ρ) fun ds r => forL b body ds r := rfl
@[simp] theorem eComp_ev {fi : Env → Res (List D)} {b : D → Env → Option Env} {t : Env → Res Bool} {el : Env → Res O} {vs : List Nat} : eComp fi b t el vs ρ = (fi ρ).bind fun ds r0 => compE b t el vs ds r0 := rfl
@[simp] theorem sApp_ev {f : Env → Res O} : sApp i f ρ = match slot ρ i with
  | some (.lst _) => sB (f ρ) fun o r => match slot r i with
    | some (.lst os) => if os.length < sizeLine then .nx (r.set i (some (.lst (os ++ [o])))) else .no
    | _ => .no
  | _ => .no := rfl
@[simp] theorem sSto_ev {ix f : Env → Res D} : sSto i ix f ρ = sB (f ρ) fun d r => match slot r i with
  | some (.lst _) => sB (ix r) fun k r1 => match k, slot r1 i with
    | .int k, some (.lst os) => match ixN os.length k with
      | some j => .nx (r1.set i (some (.lst (os.set j (.sh d)))))
      | none => .no
    | _, _ => .no
  | _ => .no := rfl
@[simp] theorem eIxO_ev {ix : Env → Res D} : eIxO i ix ρ = match slot ρ i with
  | some (.lst _) => (ix ρ).bind fun k r => match k, slot r i with
    | .int k, some (.lst os) => match atI os k with
      | some (.sh d) => .ok d r
      | _ => .no
    | _, _ => .no
  | _ => .no := rfl
@[simp] theorem sAug_ev {g : Int → Int → Int} {f : Env → Res D} : sAug i g f ρ = match slot ρ i with
  | some (.sh (.int x)) => sB (f ρ) fun d r => match d with
    | .int y => .nx (r.set i (some (.sh (.int (g x y)))))
    | _ => .no
  | _ => .no := rfl
@[simp] theorem ePeek_ev {f : Env → Res D} : ePeek f ρ = match f (eView ρ) with
  | .ok d _ => if scal' d = true then .ok d ρ else .no
  | _ => .no := rfl
theorem sApp_ok {f : Env → Res O} {os os2 : List O} {o : O} (h : slot ρ i = some (.lst os2)) (h1 : f ρ = .ok o r) (h2 : slot r i = some (.lst os)) (h3 : os.length < sizeLine) : sApp i f ρ = .nx (r.set i (some (.lst (os ++ [o])))) := by
  unfold sApp
  rw [h]
  simp only [h1, sB_ok, h2, if_pos h3]
theorem sSto_ok {ix f : Env → Res D} {r1 : Env} {os os2 : List O} {d : D} {k : Int} {j : Nat} (h1 : f ρ = .ok d r) (h2 : slot r i = some (.lst os2)) (h3 : ix r = .ok (.int k) r1) (h4 : slot r1 i = some (.lst os)) (h5 : ixN os.length k = some j) :
    sSto i ix f ρ = .nx (r1.set i (some (.lst (os.set j (.sh d))))) := by
  unfold sSto
  simp only [h1, sB_ok, h2, h3, h4, h5]
theorem eIxO_ok {ix : Env → Res D} {os os2 : List O} {d : D} {k : Int} (h1 : slot ρ i = some (.lst os2)) (h2 : ix ρ = .ok (.int k) r) (h3 : slot r i = some (.lst os)) (h4 : atI os k = some (.sh d)) : eIxO i ix ρ = .ok d r := by
  unfold eIxO
  rw [h1]
  simp only [h2, Res.bind_ok, h3, h4]
theorem sAugI_ok {g : Int → Int → Int} {ix f : Env → Res D} {r1 : Env} {os os2 os3 : List O} {k x y : Int} {j : Nat} (h1 : slot ρ i = some (.lst os2)) (h2 : ix ρ = .ok (.int k) r) (h3 : slot r i = some (.lst os)) (h4 : atI os k = some (.sh (.int x)))
    (h5 : f r = .ok (.int y) r1) (h6 : slot r1 i = some (.lst os3)) (h7 : ixN os3.length k = some j) : sAugI i g ix f ρ = .nx (r1.set i (some (.lst (os3.set j (.sh (.int (g x y))))))) := by
  unfold sAugI
  rw [h1]
  simp only [h2, sB_ok, h3, h4, h5, h6, h7]
/-! ## comprehensions -/
inductive Fa2 {α β : Type} (R : α → β → Prop) : List α → List β → Prop
  | nil : Fa2 R [] []
  | cons {a : α} {b : β} {as : List α} {bs : List β} : R a b → Fa2 R as bs → Fa2 R (a :: as) (b :: bs)
theorem set_self_slot : ∀ {ρ : Env} {v : Nat}, ρ.set v (slot ρ v) = ρ
  | [], v => rfl
  | x :: ρ, 0 => rfl
  | x :: ρ, v + 1 => congrArg (x :: ·) set_self_slot
theorem rest1 {v : Nat} : restE ρ [v] (wipeE ρ [v]) = ρ := by
  show (ρ.set v none).set v (slot ρ v) = ρ
  rw [List.set_set]
  exact set_self_slot
theorem compL_pure {b : D → Env → Option Env} {t : Env → Res Bool} {el : Env → Res O} {vs : List Nat} {p : D → Bool} {g : D → O} : ∀ (ds : List D) {ρ : Env}, (∀ d ∈ ds, ∃ ρ1, b d ρ = some ρ1 ∧ t ρ1 = .ok (p d) ρ1 ∧ (p d = true → el ρ1 = .ok (g d) ρ1) ∧ wipeE ρ1 vs = ρ) →
    compL b t el vs ds ρ = .ok ((ds.filter p).map g) ρ
  | [], ρ, _ => rfl
  | d :: ds, ρ, h => by
    obtain ⟨ρ1, h1, h2, h3, h4⟩ := h d List.mem_cons_self
    have ih := compL_pure ds (ρ := ρ) fun d hd => h d (List.mem_cons_of_mem _ hd)
    unfold compL
    simp only [h1, h2, Res.bind_ok]
    cases hp : p d with
    | true => simp [h3 hp, h4, ih, List.filter_cons, hp]
    | false => simp [h4, ih, List.filter_cons, hp]
theorem comp_pure {b : D → Env → Option Env} {t : Env → Res Bool} {el : Env → Res O} {v : Nat} (p : D → Bool) (g : D → O) {ds : List D} (hs : okSlot (slot ρ v) = true)
    (h : ∀ d ∈ ds, ∃ ρ1, b d (ρ.set v none) = some ρ1 ∧ t ρ1 = .ok (p d) ρ1 ∧ (p d = true → el ρ1 = .ok (g d) ρ1) ∧ ρ1.set v none = ρ.set v none) : compE b t el [v] ds ρ = .ok (.lst ((ds.filter p).map g)) ρ := by
  unfold compE
  rw [if_pos (by simp [hs])]
  rw [show wipeE ρ [v] = ρ.set v none from rfl, compL_pure ds h]
  simp only
  rw [show restE ρ [v] (ρ.set v none) = ρ from rest1]
/-- no test, one name -/
theorem comp_map {b : D → Env → Option Env} {el : Env → Res O} {v : Nat} (g : D → O) {ds : List D} (hs : okSlot (slot ρ v) = true)
    (h : ∀ d ∈ ds, ∃ ρ1, b d (ρ.set v none) = some ρ1 ∧ el ρ1 = .ok (g d) ρ1 ∧ ρ1.set v none = ρ.set v none) : compE b tTrue el [v] ds ρ = .ok (.lst (ds.map g)) ρ := by
  rw [comp_pure (fun _ => true) g hs fun d hd => by
    obtain ⟨ρ1, h1, h2, h3⟩ := h d hd
    exact ⟨ρ1, h1, rfl, fun _ => h2, h3⟩]
  have : ds.filter (fun _ => true) = ds := List.filter_eq_self.mpr fun _ _ => rfl
  rw [this]
theorem compL_rel {b : D → Env → Option Env} {t : Env → Res Bool} {el : Env → Res O} {vs : List Nat} {I : Env → Prop} {R : D → O → Prop} : ∀ (ds : List D) {ρ : Env}, I ρ → (∀ d ∈ ds, ∀ ρ, I ρ → ∃ ρ1 o r2, b d ρ = some ρ1 ∧ t ρ1 = .ok true ρ1 ∧ el ρ1 = .ok o r2 ∧ I (wipeE r2 vs) ∧ R d o) →
    ∃ os r, compL b t el vs ds ρ = .ok os r ∧ I r ∧ Fa2 R ds os
  | [], ρ, hi, _ => ⟨[], ρ, rfl, hi, .nil⟩
  | d :: ds, ρ, hi, h => by
    obtain ⟨ρ1, o, r2, h1, h2, h3, h4, h5⟩ := h d List.mem_cons_self ρ hi
    obtain ⟨os, r, e, hr, f⟩ := compL_rel ds h4 fun d hd => h d (List.mem_cons_of_mem _ hd)
    refine ⟨o :: os, r, ?_, hr, .cons h5 f⟩
    unfold compL
    simp [h1, h2, h3, e]
/-- elements that read and write the box (or else change the names) by an invariant -/
theorem comp_rel {b : D → Env → Option Env} {el : Env → Res O} {v : Nat} (I : Env → Prop) (R : D → O → Prop) {ds : List D} (hs : okSlot (slot ρ v) = true) (hi : I (ρ.set v none))
    (h : ∀ d ∈ ds, ∀ ρ, I ρ → ∃ ρ1 o r2, b d ρ = some ρ1 ∧ el ρ1 = .ok o r2 ∧ I (r2.set v none) ∧ R d o) : ∃ os r, compE b tTrue el [v] ds ρ = .ok (.lst os) (r.set v (slot ρ v)) ∧ I r ∧ Fa2 R ds os := by
  obtain ⟨os, r, e, hr, f⟩ := compL_rel (t := tTrue) (vs := [v]) (b := b) (el := el) (R := R) ds hi fun d hd ρ hρ => by
    obtain ⟨ρ1, o, r2, h1, h2, h3, h4⟩ := h d hd ρ hρ
    exact ⟨ρ1, o, r2, h1, rfl, h2, h3, h4⟩
  refine ⟨os, r, ?_, hr, f⟩
  unfold compE
  rw [if_pos (by simp [hs]), show wipeE ρ [v] = ρ.set v none from rfl, e]
  rfl
/-! ## loops -/
theorem forL_inv {b : D → Env → Option Env} {body : Env → SRes} (I : Nat → Env → Prop) : ∀ (ds : List D) (n : Nat) {ρ : Env}, I n ρ → (∀ i d ρ, ds[i]? = some d → I (n + i) ρ → ∃ ρ1 r, b d ρ = some ρ1 ∧ (body ρ1 = .nx r ∨ body ρ1 = .ct r) ∧ I (n + i + 1) r) →
    ∃ r, forL b body ds ρ = .nx r ∧ I (n + ds.length) r
  | [], n, ρ, hi, _ => ⟨ρ, rfl, hi⟩
  | d :: ds, n, ρ, hi, h => by
    obtain ⟨ρ1, r, h1, h2, h3⟩ := h 0 d ρ rfl hi
    obtain ⟨r', e, hr⟩ := forL_inv I ds (n + 1) (ρ := r) h3 fun i d ρ hd hI => by
      have e : n + 1 + i = n + (i + 1) := by omega
      rw [e] at hI ⊢
      exact h (i + 1) d ρ (by simpa using hd) hI
    refine ⟨r', ?_, ?_⟩
    · unfold forL
      rcases h2 with h2 | h2 <;> simp only [h1, h2, e]
    · rw [List.length_cons]
      have e : n + (ds.length + 1) = n + 1 + ds.length := by omega
      rw [e]
      exact hr
theorem forL_nx {b : D → Env → Option Env} {body : Env → SRes} {d : D} {ds : List D} {ρ1 : Env} (h1 : b d ρ = some ρ1) (h2 : body ρ1 = .nx r) : forL b body (d :: ds) ρ = forL b body ds r := by
  conv => lhs; unfold forL
  simp only [h1, h2]
theorem forL_rt {b : D → Env → Option Env} {body : Env → SRes} {d : D} {ds : List D} {ρ1 : Env} {o : O} (h1 : b d ρ = some ρ1) (h2 : body ρ1 = .rt o r) : forL b body (d :: ds) ρ = .rt o r := by
  conv => lhs; unfold forL
  simp only [h1, h2]
@[simp] theorem forL_nil {b : D → Env → Option Env} {body : Env → SRes} : forL b body [] ρ = .nx ρ := rfl
end
/-! ## defs -/
theorem mk0_rt {n m : Nat} {kp : List Nat} {body : Env → SRes} {os os' : List O} {o : O} {r : Env} (hl : os.length = n) (h : body (initE os m) = .rt o r) (h2 : outs kp r 0 os = some os') : mk0 n m kp body os = .ok o os' := by
  unfold mk0
  rw [if_pos hl, h]
  simp only [h2]
theorem mk0_nx {n m : Nat} {kp : List Nat} {body : Env → SRes} {os os' : List O} {r : Env} (hl : os.length = n) (h : body (initE os m) = .nx r) (h2 : outs kp r 0 os = some os') : mk0 n m kp body os = .ok (.sh .non) os' := by
  unfold mk0
  rw [if_pos hl, h]
  simp only [h2]
/-! ## primitives at typed data -/
@[simp] theorem frzs_shs {ds : List D} : frzs (ds.map O.sh) = ds := frzs_sh ds
@[simp] theorem frzs_mapsh {α : Type} {f : α → D} {xs : List α} : frzs (xs.map (O.sh ∘ f)) = xs.map f := by
  rw [← List.map_map, frzs_sh]
@[simp] theorem frzs_mapfun {α : Type} {f : α → D} {xs : List α} : frzs (xs.map fun x => O.sh (f x)) = xs.map f := frzs_mapsh (f := f)
theorem frzs_len : ∀ os : List O, (frzs os).length = os.length
  | [] => rfl
  | o :: os => by simp [frzs_len os]
@[simp] theorem truD_bl {k : Bool} : truD (.bl k) = some k := rfl
@[simp] theorem bl_bl {k : Bool} : bl? (.bl k) = some k := rfl
@[simp] theorem int_int {k : Int} : int? (.int k) = some k := rfl
@[simp] theorem cmpD_int {g : Int → Int → Bool} {i j : Int} : cmpD g (.int i) (.int j) = some (g i j) := rfl
@[simp] theorem addD_int {i j : Int} : addD (.int i) (.int j) = some (.sh (.int (i + j))) := rfl
@[simp] theorem subD_int {i j : Int} : subD (.int i) (.int j) = some (.sh (.int (i - j))) := rfl
@[simp] theorem eqD_int {i j : Int} : eqD (.int i) (.int j) = some (i == j) := by
  unfold eqD
  simp only [toP]
  rw [if_pos ⟨rfl, rfl⟩]
  rfl
@[simp] theorem neD_int {i j : Int} : neD (.int i) (.int j) = some (!(i == j)) := by
  unfold neD
  rw [eqD_int]
  rfl
@[simp] theorem isND_non {x : D} : isND x .non = some (isNon x) := rfl
@[simp] theorem notND_non {x : D} : notND x .non = some (!isNon x) := rfl
@[simp] theorem isNon_non : isNon .non = true := rfl
@[simp] theorem isNon_int {i : Int} : isNon (.int i) = false := rfl
@[simp] theorem isNon_str {i : Str} : isNon (.str i) = false := rfl
@[simp] theorem isNon_bl {i : Bool} : isNon (.bl i) = false := rfl
@[simp] theorem isNon_tup {i : List D} : isNon (.tup i) = false := rfl
@[simp] theorem ixD_lst {xs : List D} {i : Int} : ixD (.lst xs) (.int i) = (atI xs i).map O.sh := rfl
@[simp] theorem ixD_tup {xs : List D} {i : Int} : ixD (.tup xs) (.int i) = (atI xs i).map O.sh := rfl
@[simp] theorem lenD_lst {xs : List D} : lenD [.lst xs] = some (.sh (.int xs.length)) := rfl
@[simp] theorem lenD_tup {xs : List D} : lenD [.tup xs] = some (.sh (.int xs.length)) := rfl
@[simp] theorem intD_int {i : Int} : intD [.int i] = some (.sh (.int i)) := rfl
@[simp] theorem tupOf_lst {xs : List D} : tupOf [.lst xs] = some (.sh (.tup xs)) := rfl
@[simp] theorem tupOf_tup {xs : List D} : tupOf [.tup xs] = some (.sh (.tup xs)) := rfl
@[simp] theorem lstOf_lst {xs : List D} : lstOf [.lst xs] = some (.lst (xs.map O.sh)) := rfl
@[simp] theorem lstOf_tup {xs : List D} : lstOf [.tup xs] = some (.lst (xs.map O.sh)) := rfl
@[simp] theorem seq_lst {xs : List D} : seq? (.lst xs) = some xs := rfl
@[simp] theorem seq_tup {xs : List D} : seq? (.tup xs) = some xs := rfl
@[simp] theorem seqLT_lst {xs : List D} : seqLT (.lst xs) = some xs := rfl
@[simp] theorem seqLT_tup {xs : List D} : seqLT (.tup xs) = some xs := rfl
@[simp] theorem tst_some {k : Bool} : tst (some k) = some (.sh (.bl k)) := rfl
@[simp] theorem isI_ev {o : D → Option Bool} {d : D} : isI o d = tst (o d) := rfl
theorem tupD_ok {ds : List D} (h : ds.length ≤ sizeLine) : tupD ds = some (.sh (.tup ds)) := if_pos h
theorem lstD_ok {ds : List D} (h : ds.length ≤ sizeLine) : lstD ds = some (.lst (ds.map O.sh)) := if_pos h
theorem small_le {n : Nat} (h : n ≤ 1000) : n ≤ sizeLine := Nat.le_trans h (by decide)
@[simp] theorem tupD_1 {a : D} : tupD [a] = some (.sh (.tup [a])) := tupD_ok (by show 1 ≤ sizeLine; decide)
@[simp] theorem tupD_2 {a b : D} : tupD [a, b] = some (.sh (.tup [a, b])) := tupD_ok (by show 2 ≤ sizeLine; decide)
@[simp] theorem tupD_3 {a b c : D} : tupD [a, b, c] = some (.sh (.tup [a, b, c])) := tupD_ok (by show 3 ≤ sizeLine; decide)
@[simp] theorem tupD_4 {a b c d : D} : tupD [a, b, c, d] = some (.sh (.tup [a, b, c, d])) := tupD_ok (by show 4 ≤ sizeLine; decide)
@[simp] theorem lstD_0 : lstD [] = some (.lst []) := rfl
@[simp] theorem lstD_1 {a : D} : lstD [a] = some (.lst [.sh a]) := lstD_ok (by show 1 ≤ sizeLine; decide)
@[simp] theorem lstD_2 {a b : D} : lstD [a, b] = some (.lst [.sh a, .sh b]) := lstD_ok (by show 2 ≤ sizeLine; decide)
@[simp] theorem lstD_3 {a b c : D} : lstD [a, b, c] = some (.lst [.sh a, .sh b, .sh c]) := lstD_ok (by show 3 ≤ sizeLine; decide)
@[simp] theorem lstD_4 {a b c d : D} : lstD [a, b, c, d] = some (.lst [.sh a, .sh b, .sh c, .sh d]) := lstD_ok (by show 4 ≤ sizeLine; decide)
@[simp] theorem lstD_5 {a b c d e : D} : lstD [a, b, c, d, e] = some (.lst [.sh a, .sh b, .sh c, .sh d, .sh e]) := lstD_ok (by show 5 ≤ sizeLine; decide)
/-! isinstance of built-in types -/
@[simp] theorem isB_int_int {i : Int} : isB "int" (.int i) = some true := by show kitB "int" "int" = _; decide +kernel
@[simp] theorem isB_bool_int {i : Int} : isB "bool" (.int i) = some false := by show kitB "int" "bool" = _; decide +kernel
@[simp] theorem isB_int_non : isB "int" .non = some false := by show kitB "NoneType" "int" = _; decide +kernel
@[simp] theorem isB_list_lst {i : List D} : isB "list" (.lst i) = some true := by show kitB "list" "list" = _; decide +kernel
@[simp] theorem isB_tuple_lst {i : List D} : isB "tuple" (.lst i) = some false := by show kitB "list" "tuple" = _; decide +kernel
@[simp] theorem isB_list_tup {i : List D} : isB "list" (.tup i) = some false := by show kitB "tuple" "list" = _; decide +kernel
@[simp] theorem isB_tuple_tup {i : List D} : isB "tuple" (.tup i) = some true := by show kitB "tuple" "tuple" = _; decide +kernel
@[simp] theorem isB_str_str {i : Str} : isB "str" (.str i) = some true := by show kitB "str" "str" = _; decide +kernel
@[simp] theorem isB_str_int {i : Int} : isB "str" (.int i) = some false := by show kitB "int" "str" = _; decide +kernel
@[simp] theorem isB_list_int {i : Int} : isB "list" (.int i) = some false := by show kitB "int" "list" = _; decide +kernel
@[simp] theorem isB_tuple_int {i : Int} : isB "tuple" (.int i) = some false := by show kitB "int" "tuple" = _; decide +kernel
@[simp] theorem isB_list_non : isB "list" .non = some false := by show kitB "NoneType" "list" = _; decide +kernel
@[simp] theorem isB_tuple_non : isB "tuple" .non = some false := by show kitB "NoneType" "tuple" = _; decide +kernel
@[simp] theorem isB_list_str {i : Str} : isB "list" (.str i) = some false := by show kitB "str" "list" = _; decide +kernel
@[simp] theorem isB_tuple_str {i : Str} : isB "tuple" (.str i) = some false := by show kitB "str" "tuple" = _; decide +kernel
@[simp] theorem isB2_lst {i : List D} : isB2 "list" "tuple" (.lst i) = some true := by
  show (match kitB "list" "list" with | some true => some true | some false => kitB "list" "tuple" | none => none) = _
  decide +kernel
@[simp] theorem isB2_tup {i : List D} : isB2 "list" "tuple" (.tup i) = some true := by
  show (match kitB "tuple" "list" with | some true => some true | some false => kitB "tuple" "tuple" | none => none) = _
  decide +kernel
end Tk

set_option Elab.async false
set_option linter.all false
set_option maxRecDepth 100000
set_option maxHeartbeats 4000000
namespace Tk
open PySem PySem.Spec PyProof.Rows L2
/-! ## the law's own promise -/
theorem Reps.ints {K : PySem.W.Frag} {cl : Nat → Addr} {F : Hp} : ∀ ns : List Int, Reps K cl F (ns.map V.int) (ns.map D.int)
  | [] => .nil
  | n :: ns => .cons (.int n) (Reps.ints ns)
theorem law_spF {K : PySem.W.Frag} {cl : Nat → Addr} {Φ : List O → FRes} (hΦ : ∀ ns : List Int, Φ [.sh (.scr (ns.map D.int))] = .ok (.sh (.bl true)) [.sh (.scr (ns.map D.int))]) {H : Hp} {a : Addr} {ns : List Int} {E : XK} (hS : SqL K H a (ns.map V.int)) :
    spF K cl 1 Φ [.ref a] H (fun v _ => v = .bl true) E := by
  refine ⟨H, [.sh (.scr (ns.map D.int))], [], rfl, Same.refl _, .cons (fp := []) (fq := []) (.sh (.scr hS (Reps.ints ns))) .nil, .nil, ?_⟩
  rw [hΦ]
  intro v F' H' fv fa _ _ _ ro _
  cases ro with
  | sh r => cases r; rfl
end Tk

set_option Elab.async false
set_option linter.all false
set_option maxRecDepth 100000
set_option maxHeartbeats 4000000
namespace Tk
open PySem PySem.Spec PyProof.Rows L2
def b__law_is_int : Env → SRes := (sRet (eO (eAn (eV (e1 (isI (isB "int")) (eVar 0))) (eNt (eV (e1 (isI (isB "bool")) (eVar 0)))))))
def Φ__law_is_int : List O → FRes := mk0 1 1 [] b__law_is_int
def ce__law_same_0 (Φ : List O → FRes) : Env → Res O := (eO (eVar 2))
def b__law_same (Φ : List O → FRes) : Env → SRes := (sSeq (sIf (tTru (eV (e1 (isI (isB "tuple")) (eVar 1)))) (sSeq (sIf (tOr' (tNt (tTru (eV (e1 (isI (isB "tuple")) (eVar 0))))) (t2 neD (eV (eN lenD (aC (eVar 0) aN))) (eV (eN lenD (aC (eVar 1) aN))))) (sRet (eO (eC (.bl false))))
      sNil)
      (sRet (e2 (fun x y => tst (eqD x y)) (eV (eComp (iN rng1 (aC (eV (eN lenD (aC (eVar 1) aN))) aN)) (gN 2) (tNt (tTru (eV (eCall Φ [] (rC (eV (e2 ixD (eVar 0) (eVar 2))) (rC (eV (e2 ixD (eVar 1) (eVar 2))) rN)))))) (ce__law_same_0 Φ) [2])) (eV (eN lstD aN)))))
      sNil)
      (sSeq (sIf (t2 isND (eVar 1) (eC .non)) (sRet (e2 (fun x y => tst (isND x y)) (eVar 0) (eC .non)))
      sNil)
      (sSeq (sIf (tTru (eV (e1 (isI (isB "str")) (eVar 1)))) (sRet (eO (eAn (eV (e1 (isI (isB "str")) (eVar 0))) (eV (e2 (fun x y => tst (eqD x y)) (eVar 0) (eVar 1))))))
      sNil)
      (sRet (eO (eAn (eV (eCall Φ__law_is_int [] (rC (eVar 0) rN))) (eV (e2 (fun x y => tst (eqD x y)) (eVar 0) (eVar 1)))))))))
def Φ__law_same : Nat → List O → FRes
  | 0 => fun _ => .no
  | n + 1 => mk0 2 3 [] (b__law_same (Φ__law_same n))
abbrev fuel__law_same : Nat := 6
def b__law_are_doors : Env → SRes := (sRet (eO (eAn (eV (e1 (isI (isO 1)) (eVar 0))) (eAn (eV (eCall (Φ__law_same fuel__law_same) [] (rC (eV (e1 (fldD [1] "purse") (eVar 0))) (rC (eVar 1) rN)))) (eV (eCall (Φ__law_same fuel__law_same) [] (rC (eV (e1 (fldD [1] "visits") (eVar 0))) (rC (eVar 2) rN))))))))
def Φ__law_are_doors : List O → FRes := mk0 3 3 [] b__law_are_doors
def b_is_integer : Env → SRes := (sRet (eO (eAn (eV (e1 (isI (isB "int")) (eVar 0))) (eNt (eV (e1 (isI (isB "bool")) (eVar 0)))))))
def Φ_is_integer : List O → FRes := mk0 1 1 [] b_is_integer
def b_is_below : Env → SRes := (sRet (eO (eAn (eV (eCall Φ_is_integer [] (rC (eVar 0) rN))) (eChV (cmpD fun i j => decide (i ≤ j)) (cmpD fun i j => decide (i < j)) (eC (.int 0)) (eVar 0) (eVar 1)))))
def Φ_is_below : List O → FRes := mk0 2 2 [] b_is_below
def b_is_between : Env → SRes := (sRet (eO (eAn (eV (eCall Φ_is_integer [] (rC (eVar 0) rN))) (eChV (cmpD fun i j => decide (i ≤ j)) (cmpD fun i j => decide (i ≤ j)) (eVar 1) (eVar 0) (eVar 2)))))
def Φ_is_between : List O → FRes := mk0 3 3 [] b_is_between
def b_is_sequence : Env → SRes := (sRet (e1 (isI (isB2 "list" "tuple")) (eVar 0)))
def Φ_is_sequence : List O → FRes := mk0 1 1 [] b_is_sequence
def b_is_row : Env → SRes := (sRet (eO (eAn (eV (eCall Φ_is_sequence [] (rC (eVar 0) rN))) (eV (e2 (fun x y => tst (eqD x y)) (eV (eN lenD (aC (eVar 0) aN))) (eVar 1))))))
def Φ_is_row : List O → FRes := mk0 2 2 [] b_is_row
def ce_Book___init___0 : Env → Res O := (eO (eOr (eV (e2 (fun x y => tst (isND x y)) (eVar 5) (eC .non))) (eV (eCall Φ_is_below [] (rC (eVar 5) (rC (eV (eN lenD (aC (eVar 2) aN))) rN))))))
def lb_Book___init___0 : Env → SRes := (sIf (tOr' (tNt (tTru (eV (eCall Φ_is_row [] (rC (eVar 4) (rC (eVar 1) rN)))))) (tNt (tTru (eV (eN allD (aC (eV (eComp (iSeq (eVar 4)) (gN 5) tTrue ce_Book___init___0 [5])) aN)))))) (fun _ => SRes.no)
      sNil)
def ce_Book___init___1 : Env → Res O := (eN tupOf (aC (eVar 4) aN))
def b_Book___init__ : Env → SRes := (sSeq (sIf (tNt (tTru (eV (eCall Φ_is_between [] (rC (eVar 1) (rC (eC (.int 1)) (rC (eC (.int 6)) rN))))))) (fun _ => SRes.no)
      sNil)
      (sSeq (sIf (tOr' (tNt (tTru (eV (eCall Φ_is_sequence [] (rC (eVar 2) rN))))) (tNt (tTru (eV (eCall Φ_is_between [] (rC (eV (eN lenD (aC (eVar 2) aN))) (rC (eC (.int 1)) (rC (eC (.int 40)) rN)))))))) (fun _ => SRes.no)
      sNil)
      (sSeq (sFor (iN enum1 (aC (eVar 2) aN)) (gT (gC (gN 3) (gC (gN 4) gE))) lb_Book___init___0)
      (sSeq (sFldS [0] 0 "kinds" (eVar 1))
      (sFldS [0] 0 "rows" (eV (eN tupOf (aC (eV (eComp (iSeq (eVar 2)) (gN 4) tTrue ce_Book___init___1 [4])) aN))))))))
def Φ_Book___init__ : List O → FRes := mk0 3 6 [0] b_Book___init__
def lb__law_take_0 : Env → SRes := (sSeq (sSto 0 (eC (.int 1)) (eV (e2 (iiD modC (· % ·)) (eV (eN intD (aC (eV (e2 addD (eV (e2 mulD (eIxO 0 (eC (.int 1))) (eC (.int 16807)))) (eC (.int 41)))) aN))) (eC (.int 2147483629)))))
      (sSet 2 (eO (eV (e2 addD (eV (e2 mulD (eVar 2) (eC (.int 2147483629)))) (eIxO 0 (eC (.int 1))))))))
def b__law_take : Env → SRes := (sSeq (sSto 0 (eC (.int 2)) (eV (e2 addD (eIxO 0 (eC (.int 2))) (eC (.int 1)))))
      (sSeq (sIf (tAn (t2 (cmpD fun i j => decide (i ≤ j)) (eIxO 0 (eC (.int 2))) (eV (eN lenD (aC (eIxO 0 (eC (.int 0))) aN)))) (t2 (cmpD fun i j => decide (i < j)) (eVar 1) (eC (.int 2147483629)))) (sRet (e2 (iiD modC (· % ·)) (eV (eN intD (aC (eV (e2 ixD (eIxO 0 (eC (.int 0))) (eV (e2 subD (eIxO 0 (eC (.int 2))) (eC (.int 1)))))) aN))) (eVar 1)))
      sNil)
      (sSeq (sSet 2 (eO (eC (.int 0))))
      (sSeq (sFor (iN rng1 (aC (eIf (t2 (cmpD fun i j => decide (i < j)) (eVar 1) (eV (e2 (iiD powC fun i j => i ^ j.toNat) (eC (.int 10)) (eC (.int 9))))) (eC (.int 2)) (eC (.int 6))) aN)) (gN 3) lb__law_take_0)
      (sRet (e2 (iiD modC (· % ·)) (eV (eN intD (aC (eV (e2 (iiD divC (· / ·)) (eVar 2) (eC (.int 97)))) aN))) (eVar 1)))))))
def Φ__law_take : List O → FRes := mk0 2 4 [0] b__law_take
def ce__law_loose_0 (Φ : List O → FRes) : Env → Res O := (eCall Φ [] (rM 0 (rC (eVar 3) rN)))
def b__law_loose (Φ : List O → FRes) : Env → SRes := (sSeq (sIf (tOr' (tTru (eV (e1 (isI (isB "list")) (eVar 1)))) (tTru (eV (e1 (isI (isB "tuple")) (eVar 1))))) (sSeq (sSet 2 (eO (eV (eComp (iSeq (eVar 1)) (gN 3) tTrue (ce__law_loose_0 Φ) [3]))))
      (sRet (eO (eIf (t2 eqD (eV (eCall Φ__law_take [] (rM 0 (rC (eC (.int 2)) rN)))) (eC (.int 0))) (eVar 2) (eV (eN tupOf (aC (eVar 2) aN)))))))
      sNil)
      (sRet (eO (eVar 1))))
def Φ__law_loose : Nat → List O → FRes
  | 0 => fun _ => .no
  | n + 1 => mk0 2 4 [0] (b__law_loose (Φ__law_loose n))
abbrev fuel__law_loose : Nat := 6
def b__law_book : Env → SRes := (sRet (eMake 0 Φ_Book___init__ [] (aC (eV (eN lenD (aC (eV (e2 ixD (eVar 1) (eC (.int 0)))) aN))) (aC (eV (eCall (Φ__law_loose fuel__law_loose) [] (rM 0 (rC (eVar 1) rN)))) aN))))
def Φ__law_book : List O → FRes := mk0 2 2 [0] b__law_book
def ce__law_box_0 : Env → Res O := (e2 (iiD modC (· % ·)) (eV (eN absD (aC (eV (eN intD (aC (eVar 3) aN))) aN))) (eC (.int 2147483629)))
def lb__law_box_0 : Env → SRes := (sSet 2 (eO (eV (e2 (iiD modC (· % ·)) (eV (eN intD (aC (eV (e2 addD (eV (e2 addD (eV (e2 mulD (eVar 2) (eC (.int 16807)))) (eV (e2 mulD (eVar 3) (eC (.int 7)))))) (eC (.int 83)))) aN))) (eC (.int 2147483629))))))
def b__law_box : Env → SRes := (sSeq (sSet 1 (eO (eV (eComp (iSeq (eV (eSl slD (eVar 0) pN (pS (eC (.int 60)))))) (gN 3) tTrue ce__law_box_0 [3]))))
      (sSeq (sSet 2 (eO (eC (.int 90007))))
      (sSeq (sFor (iSeq (eVar 1)) (gN 3) lb__law_box_0)
      (sRet (eN lstD (aC (eVar 1) (aC (eVar 2) (aC (eC (.int 0)) aN))))))))
def Φ__law_box : List O → FRes := mk0 1 4 [] b__law_box
def ce__law_hall_0 : Env → Res O := (eN tupD (aC (eIf (t2 (cmpD fun i j => decide (i < j)) (eVar 2) (eVar 0)) (eV (e2 addD (eVar 2) (eC (.int 1)))) (eC .non)) (aC (eIf (t2 (cmpD fun i j => decide (j < i)) (eVar 2) (eC (.int 0))) (eV (e2 subD (eVar 2) (eC (.int 1)))) (eC .non)) aN)))
def b__law_hall : Env → SRes := (sSeq (sSet 1 (eO (eV (eN tupOf (aC (eV (eComp (iN rng1 (aC (eV (e2 addD (eVar 0) (eC (.int 1)))) aN)) (gN 2) tTrue ce__law_hall_0 [2])) aN)))))
      (sRet (eN tupD (aC (eVar 1) (aC (eV (eN tupD (aC (eC (.int 0)) (aC (eVar 0) aN)))) (aC (eV (eN tupD (aC (eV (eN tupD (aC (eV (eN tupD (aC (eC (.int 0)) (aC (eC (.int 1)) aN)))) (aC (eV (eN tupD (aC (eC (.int 1)) (aC (eC (.int 0)) aN)))) aN)))) (aC (eV (eN tupD (aC (eV (eN tupD (aC (eC (.int 1)) (aC (eC (.int 0)) aN)))) (aC (eV (eN tupD (aC (eC (.int 0)) (aC (eC (.int 1)) aN)))) aN)))) aN)))) aN))))))
def Φ__law_hall : List O → FRes := mk0 1 3 [] b__law_hall
def b__law_pick : Env → SRes := (sRet (e2 ixD (eVar 1) (eV (eCall Φ__law_take [] (rM 0 (rC (eV (eN lenD (aC (eVar 1) aN))) rN))))))
def Φ__law_pick : List O → FRes := mk0 2 2 [0] b__law_pick
def b__law_number : Env → SRes := (sRet (eCall Φ__law_pick [] (rM 0 (rC (eV (eN lstD (aC (eC (.int 0)) (aC (eC (.int 0)) (aC (eC (.int 1)) (aC (eC (.int 1)) (aC (eV (eCall Φ__law_take [] (rM 0 (rC (eV (e2 addD (eVar 1) (eC (.int 1)))) rN)))) aN))))))) rN))))
def Φ__law_number : List O → FRes := mk0 2 2 [0] b__law_number
def ce__law_rows_0 : Env → Res O := (eCall Φ__law_pick [] (rM 0 (rC (eV (eN lstD (aC (eC .non) (aC (eV (eCall Φ__law_take [] (rM 0 (rC (eVar 2) rN)))) (aC (eV (e2 (iiD modC (· % ·)) (eV (e2 addD (eVar 4) (eC (.int 1)))) (eVar 2))) aN))))) rN)))
def lb__law_rows_0 : Env → SRes := (sApp 3 (eN tupOf (aC (eV (eComp (iN rng1 (aC (eVar 1) aN)) (gN 5) tTrue ce__law_rows_0 [5])) aN)))
def b__law_rows : Env → SRes := (sSeq (sSet 3 (eN lstD aN))
      (sSeq (sFor (iN rng1 (aC (eVar 2) aN)) (gN 4) lb__law_rows_0)
      (sRet (eN tupOf (aC (eFrz 3) aN)))))
def Φ__law_rows : List O → FRes := mk0 3 6 [0] b__law_rows
def ce__law_visits_0 : Env → Res O := (eCall Φ__law_number [] (rM 0 (rC (eVar 3) rN)))
def ce__law_visits_1 : Env → Res O := (eCall Φ__law_number [] (rM 0 (rC (eVar 3) rN)))
def lb__law_visits_0 : Env → SRes := (sApp 4 (eN tupD (aC (eV (eN tupOf (aC (eV (eComp (iN rng1 (aC (eVar 2) aN)) (gN 6) tTrue ce__law_visits_1 [6])) aN))) (aC (eV (eN tupOf (aC (eV (eComp (iN rng1 (aC (eVar 2) aN)) (gN 6) tTrue ce__law_visits_0 [6])) aN))) aN))))
def b__law_visits : Env → SRes := (sSeq (sSet 4 (eN lstD aN))
      (sSeq (sFor (iN rng1 (aC (eVar 1) aN)) (gN 5) lb__law_visits_0)
      (sRet (eN tupOf (aC (eFrz 4) aN)))))
def Φ__law_visits : List O → FRes := mk0 4 7 [0] b__law_visits
def ce__law_case_0 : Env → Res O := (eCall Φ__law_number [] (rM 0 (rC (eC (.int 3)) rN)))
def b__law_case : Env → SRes := (sSeq (sSet 1 (eO (eV (eCall Φ__law_take [] (rM 0 (rC (eC (.int 5)) rN))))))
      (sSeq (sIf (t2 (cmpD fun i j => decide (i < j)) (eVar 1) (eC (.int 3))) (sSeq (sSet 2 (eO (eV (e2 addD (eC (.int 1)) (eV (eCall Φ__law_take [] (rM 0 (rC (eC (.int 4)) rN))))))))
      (sSeq (sAsg (gT (gC (gN 3) (gC (gN 4) (gC (gN 5) gE)))) (eV (eCall Φ__law_hall [] (rC (eVar 2) rN))))
      (sSeq (sIf (t2 (cmpD fun i j => decide (j < i)) (eVar 1) (eC (.int 0))) (sSeq (sPar [6, 7] (oC (eO (eV (eCall Φ__law_take [] (rM 0 (rC (eV (e2 addD (eVar 2) (eC (.int 1)))) rN))))) (oC (eO (eV (eCall Φ__law_take [] (rM 0 (rC (eC (.int 2)) rN))))) oN)))
      (sSeq (sSet 8 (eO (eV (eCall Φ__law_pick [] (rM 0 (rC (eV (eN lstD (aC (eC .non) (aC (eVar 6) (aC (eC (.int 0)) aN))))) rN))))))
      (sSet 3 (eO (eV (e2 addD (eV (e2 addD (eV (eSl slD (eVar 3) pN (pS (eVar 6)))) (eV (eN tupD (aC (eV (e2 addD (eV (e2 addD (eV (eSl slD (eV (e2 ixD (eVar 3) (eVar 6))) pN (pS (eVar 7)))) (eV (eN tupD (aC (eVar 8) aN))))) (eV (eSl slD (eV (e2 ixD (eVar 3) (eVar 6))) (pS (eV (e2 addD (eVar 7) (eC (.int 1))))) pN)))) aN))))) (eV (eSl slD (eVar 3) (pS (eV (e2 addD (eVar 6) (eC (.int 1))))) pN))))))))
      sNil)
      (sSeq (sIf (t2 (cmpD fun i j => decide (j < i)) (eVar 1) (eC (.int 1))) (sSet 4 (eO (eV (eN tupD (aC (eV (e2 addD (eV (e2 ixD (eVar 4) (eC (.int 0)))) (eV (eCall Φ__law_take [] (rM 0 (rC (eC (.int 2)) rN)))))) (aC (eV (eN maxD (aC (eV (eN lstD (aC (eC (.int 0)) (aC (eV (e2 addD (eV (e2 subD (eV (e2 ixD (eVar 4) (eC (.int 1)))) (eC (.int 1)))) (eV (eCall Φ__law_take [] (rM 0 (rC (eC (.int 3)) rN)))))) aN)))) aN))) aN))))))
      sNil)
      (sRet (eN tupD (aC (eVar 3) (aC (eVar 4) (aC (eVar 5) aN)))))))))
      sNil)
      (sSeq (sPar [9, 10, 11] (oC (eO (eV (e2 addD (eC (.int 1)) (eV (eCall Φ__law_take [] (rM 0 (rC (eC (.int 3)) rN))))))) (oC (eO (eV (e2 addD (eC (.int 1)) (eV (eCall Φ__law_take [] (rM 0 (rC (eC (.int 3)) rN))))))) (oC (eO (eV (eCall Φ__law_take [] (rM 0 (rC (eC (.int 3)) rN))))) oN))))
      (sSeq (sPar [3, 5] (oC (eO (eV (eCall Φ__law_rows [] (rM 0 (rC (eVar 9) (rC (eVar 10) rN)))))) (oC (eO (eV (eCall Φ__law_visits [] (rM 0 (rC (eVar 9) (rC (eVar 11) (rC (eC (.int 3)) rN))))))) oN)))
      (sRet (eN tupD (aC (eVar 3) (aC (eV (eN tupOf (aC (eV (eComp (iN rng1 (aC (eVar 11) aN)) (gN 12) tTrue ce__law_case_0 [12])) aN))) (aC (eVar 5) aN)))))))))
def Φ__law_case : List O → FRes := mk0 1 13 [0] b__law_case
def lb__law_crowd_case_0 : Env → SRes := (sSeq (sPar [8, 9] (oC (e2 mulD (eV (eN lstD (aC (eC (.int 0)) aN))) (eVar 4)) (oC (e2 mulD (eV (eN lstD (aC (eC (.int 0)) aN))) (eVar 4)) oN)))
      (sSeq (sSto 8 (eV (eCall Φ__law_take [] (rM 0 (rC (eVar 4) rN)))) (eV (eCall Φ__law_take [] (rM 0 (rC (eC (.int 3)) rN)))))
      (sSeq (sSto 9 (eV (eCall Φ__law_take [] (rM 0 (rC (eVar 4) rN)))) (eV (eCall Φ__law_take [] (rM 0 (rC (eC (.int 3)) rN)))))
      (sApp 6 (eN tupD (aC (eV (eN tupOf (aC (eFrz 8) aN))) (aC (eV (eN tupOf (aC (eFrz 9) aN))) aN)))))))
def ce__law_crowd_case_0 : Env → Res O := (eCall Φ__law_pick [] (rM 0 (rC (eV (eN lstD (aC (eC (.int 0)) (aC (eC (.int 0)) (aC (eC (.int 1)) (aC (eC (.int 2)) aN)))))) rN)))
def b__law_crowd_case : Env → SRes := (sSeq (sSet 1 (eO (eV (eCall Φ__law_take [] (rM 0 (rC (eC (.int 4)) rN))))))
      (sSeq (sIf (t2 eqD (eVar 1) (eC (.int 0))) (sRet (eCall Φ__law_case [] (rM 0 rN)))
      sNil)
      (sSeq (sPar [2, 3, 4] (oC (eO (eV (e2 addD (eC (.int 1)) (eV (eCall Φ__law_take [] (rM 0 (rC (eC (.int 3)) rN))))))) (oC (eO (eV (e2 addD (eC (.int 1)) (eV (eCall Φ__law_take [] (rM 0 (rC (eC (.int 4)) rN))))))) (oC (eO (eV (e2 addD (eC (.int 1)) (eV (eCall Φ__law_take [] (rM 0 (rC (eC (.int 3)) rN))))))) oN))))
      (sSeq (sSet 5 (eO (eV (eCall Φ__law_rows [] (rM 0 (rC (eVar 2) (rC (eVar 3) rN)))))))
      (sSeq (sSet 6 (eN lstD aN))
      (sSeq (sFor (iN rng1 (aC (eVar 2) aN)) (gN 7) lb__law_crowd_case_0)
      (sRet (eN tupD (aC (eVar 5) (aC (eV (eN tupOf (aC (eV (eComp (iN rng1 (aC (eVar 4) aN)) (gN 10) tTrue ce__law_crowd_case_0 [10])) aN))) (aC (eV (eN tupOf (aC (eFrz 6) aN))) aN)))))))))))
def Φ__law_crowd_case : List O → FRes := mk0 1 11 [0] b__law_crowd_case
def ce_is_tickets_0 : Env → Res O := (eCall Φ_is_between [] (rC (eVar 2) (rC (eC (.int 0)) (rC (eC (.int 1000000000000000000)) rN))))
def b_is_tickets : Env → SRes := (sRet (eO (eAn (eV (eCall Φ_is_row [] (rC (eVar 0) (rC (eVar 1) rN)))) (eV (eN allD (aC (eV (eComp (iSeq (eVar 0)) (gN 2) tTrue ce_is_tickets_0 [2])) aN))))))
def Φ_is_tickets : List O → FRes := mk0 2 3 [] b_is_tickets
def b_is_visit : Env → SRes := (sRet (eO (eAn (eV (eCall Φ_is_row [] (rC (eVar 0) (rC (eC (.int 2)) rN)))) (eAn (eV (eCall Φ_is_tickets [] (rC (eV (e2 ixD (eVar 0) (eC (.int 0)))) (rC (eVar 1) rN)))) (eV (eCall Φ_is_tickets [] (rC (eV (e2 ixD (eVar 0) (eC (.int 1)))) (rC (eVar 1) rN))))))))
def Φ_is_visit : List O → FRes := mk0 2 2 [] b_is_visit
def lb_Doors___init___0 : Env → SRes := (sIf (tNt (tTru (eV (eCall Φ_is_between [] (rC (eVar 4) (rC (eC (.int 0)) (rC (eC (.int 1000000000000000000)) rN))))))) (fun _ => SRes.no)
      sNil)
def lb_Doors___init___1 : Env → SRes := (sIf (tNt (tTru (eV (eCall Φ_is_visit [] (rC (eVar 5) (rC (eV (eN lenD (aC (eVar 1) aN))) rN)))))) (fun _ => SRes.no)
      sNil)
def ce_Doors___init___0 : Env → Res O := (eN tupD (aC (eV (eN tupOf (aC (eVar 6) aN))) (aC (eV (eN tupOf (aC (eVar 7) aN))) aN)))
def b_Doors___init__ : Env → SRes := (sSeq (sIf (tOr' (tNt (tTru (eV (eCall Φ_is_sequence [] (rC (eVar 1) rN))))) (t2 (cmpD fun i j => decide (j < i)) (eV (eN lenD (aC (eVar 1) aN))) (eC (.int 60)))) (fun _ => SRes.no)
      sNil)
      (sSeq (sFor (iN enum1 (aC (eVar 1) aN)) (gT (gC (gN 3) (gC (gN 4) gE))) lb_Doors___init___0)
      (sSeq (sIf (tOr' (tNt (tTru (eV (eCall Φ_is_sequence [] (rC (eVar 2) rN))))) (tNt (tTru (eV (eCall Φ_is_between [] (rC (eV (eN lenD (aC (eVar 2) aN))) (rC (eC (.int 1)) (rC (eC (.int 6)) rN)))))))) (fun _ => SRes.no)
      sNil)
      (sSeq (sFor (iN enum1 (aC (eVar 2) aN)) (gT (gC (gN 3) (gC (gN 5) gE))) lb_Doors___init___1)
      (sSeq (sFldS [1] 0 "purse" (eV (eN tupOf (aC (eVar 1) aN))))
      (sFldS [1] 0 "visits" (eV (eN tupOf (aC (eV (eComp (iSeq (eVar 2)) (gTL (gC (gN 6) (gC (gN 7) gE))) tTrue ce_Doors___init___0 [6, 7])) aN)))))))))
def Φ_Doors___init__ : List O → FRes := mk0 3 8 [0] b_Doors___init__
def b__law_doors : Env → SRes := (sRet (eMake 1 Φ_Doors___init__ [] (aC (eV (eCall (Φ__law_loose fuel__law_loose) [] (rM 0 (rC (eVar 1) rN)))) (aC (eV (eCall (Φ__law_loose fuel__law_loose) [] (rM 0 (rC (eVar 2) rN)))) aN))))
def Φ__law_doors : List O → FRes := mk0 3 3 [0] b__law_doors
def ce__law_pool_come_0 : Env → Res O := (e2 addD (eV (e2 ixD (eVar 1) (eVar 4))) (eV (e2 mulD (eV (e2 ixD (eVar 2) (eVar 4))) (eVar 3))))
def b__law_pool_come : Env → SRes := (sRet (eN tupD (aC (eV (e2 addD (eV (eN tupD (aC (eV (e2 addD (eV (e2 ixD (eVar 0) (eC (.int 0)))) (eVar 3))) aN))) (eV (eN tupOf (aC (eV (eSl slD (eVar 0) (pS (eC (.int 1))) pN)) aN))))) (aC (eV (eN tupOf (aC (eV (eComp (iN rng1 (aC (eV (eN lenD (aC (eVar 1) aN))) aN)) (gN 4) tTrue ce__law_pool_come_0 [4])) aN))) aN))))
def Φ__law_pool_come : List O → FRes := mk0 4 5 [] b__law_pool_come
def ce__law_pool_move_0 : Env → Res O := (eN maxD (aC (eV (eN lstD (aC (eC (.int 0)) (aC (eV (e2 subD (eV (e2 ixD (eVar 7) (eVar 11))) (eV (e2 ixD (eVar 8) (eVar 11))))) aN)))) aN))
def ce__law_pool_move_1 : Env → Res O := (eO (eC (.int 1)))
def ce__law_pool_move_2 : Env → Res O := (e2 addD (eV (e2 ixD (eVar 3) (eVar 11))) (eV (e2 mulD (eV (e2 subD (eV (e2 ixD (eVar 8) (eVar 11))) (eV (e2 ixD (eVar 7) (eVar 11))))) (eVar 6))))
def b__law_pool_move : Env → SRes := (sSeq (sAsg (gT (gC (gN 7) (gC (gN 8) gE))) (eV (e2 ixD (eVar 1) (eVar 5))))
      (sSeq (sSet 9 (eO (eV (eComp (iN rng1 (aC (eV (eN lenD (aC (eVar 3) aN))) aN)) (gN 11) tTrue ce__law_pool_move_0 [11]))))
      (sSeq (sIf (tOr' (t2 isND (eV (e2 ixD (eV (e2 ixD (eVar 0) (eVar 4))) (eVar 5))) (eC .non)) (t2 (cmpD fun i j => decide (i < j)) (eV (e2 ixD (eVar 2) (eVar 4))) (eVar 6))) (sRet (eO (eC .non)))
      sNil)
      (sSeq (sIf (t2 neD (eV (eComp (iN rng1 (aC (eV (eN lenD (aC (eVar 3) aN))) aN)) (gN 11) (t2 (cmpD fun i j => decide (i < j)) (eV (e2 ixD (eVar 3) (eVar 11))) (eV (e2 addD (eV (e2 ixD (eVar 7) (eVar 11))) (eV (e2 mulD (eV (e2 ixD (eVar 9) (eVar 11))) (eV (e2 subD (eVar 6) (eC (.int 1))))))))) ce__law_pool_move_1 [11])) (eV (eN lstD aN))) (sRet (eO (eC .non)))
      sNil)
      (sSeq (sSet 10 (eN lstOf (aC (eVar 2) aN)))
      (sSeq (sAugI 10 (fun i j => i - j) (eVar 4) (eVar 6))
      (sSeq (sAugI 10 (fun i j => i + j) (eV (e2 ixD (eV (e2 ixD (eVar 0) (eVar 4))) (eVar 5))) (eVar 6))
      (sRet (eN tupD (aC (eV (eN tupOf (aC (eFrz 10) aN))) (aC (eV (eN tupOf (aC (eV (eComp (iN rng1 (aC (eV (eN lenD (aC (eVar 3) aN))) aN)) (gN 11) tTrue ce__law_pool_move_2 [11])) aN))) aN)))))))))))
def Φ__law_pool_move : List O → FRes := mk0 7 12 [] b__law_pool_move
def lb__law_drawn_plan_0 : Env → SRes := (sSeq (sPar [10, 11, 12] (oC (eO (eV (eCall Φ__law_take [] (rM 0 (rC (eV (eN lenD (aC (eVar 1) aN))) rN))))) (oC (eO (eV (eCall Φ__law_take [] (rM 0 (rC (eV (eN lenD (aC (eVar 3) aN))) rN))))) (oC (eO (eV (e2 addD (eC (.int 1)) (eV (eCall Φ__law_take [] (rM 0 (rC (eVar 5) rN))))))) oN))))
      (sSeq (sSet 13 (eO (eIf (t2 (cmpD fun i j => decide (j < i)) (eVar 9) (eC (.int 0))) (eV (eCall Φ__law_pool_move [] (rC (eVar 1) (rC (eVar 3) (rC (eVar 7) (rC (eVar 8) (rC (eVar 10) (rC (eVar 11) (rC (eVar 12) rN))))))))) (eC .non))))
      (sSeq (sIf (t2 isND (eVar 13) (eC .non)) (sSeq (sSet 13 (eO (eIf (tAn (t2 (cmpD fun i j => decide (j < i)) (eVar 9) (eC (.int 0))) (t2 (cmpD fun i j => decide (j < i)) (eV (e2 ixD (eVar 7) (eVar 10))) (eC (.int 0)))) (eV (eCall Φ__law_pool_move [] (rC (eVar 1) (rC (eVar 3) (rC (eVar 7) (rC (eVar 8) (rC (eVar 10) (rC (eVar 11) (rC (eC (.int 1)) rN))))))))) (eC .non))))
      (sSet 12 (eO (eIf (t2 isND (eVar 13) (eC .non)) (eVar 12) (eC (.int 1))))))
      sNil)
      (sIf (t2 isND (eVar 13) (eC .non)) (sSeq (sApp 6 (eN tupD (aC (eC (.str "come")) (aC (eVar 12) aN))))
      (sAsg (gT (gC (gN 7) (gC (gN 8) gE))) (eV (eCall Φ__law_pool_come [] (rC (eVar 7) (rC (eVar 8) (rC (eVar 2) (rC (eVar 12) rN))))))))
      (sSeq (sApp 6 (eN tupD (aC (eC (.str "visit")) (aC (eVar 10) (aC (eVar 11) (aC (eVar 12) aN))))))
      (sAsg (gT (gC (gN 7) (gC (gN 8) gE))) (eVar 13)))))))
def b__law_drawn_plan : Env → SRes := (sSeq (sPar [6, 7, 8] (oC (eN lstD aN) (oC (eO (eV (e2 mulD (eV (eN tupD (aC (eC (.int 0)) aN))) (eV (eN lenD (aC (eVar 1) aN)))))) (oC (eO (eV (e2 mulD (eV (eN tupD (aC (eC (.int 0)) aN))) (eV (eN lenD (aC (eVar 2) aN)))))) oN))))
      (sSeq (sFor (iN rng1 (aC (eVar 4) aN)) (gN 9) lb__law_drawn_plan_0)
      (sRet (eN tupOf (aC (eFrz 6) aN)))))
def Φ__law_drawn_plan : List O → FRes := mk0 6 14 [0] b__law_drawn_plan
def b__law_is_book : Env → SRes := (sRet (eO (eAn (eV (eCall (Φ__law_same fuel__law_same) [] (rC (eV (e1 (fldD [0] "kinds") (eVar 0))) (rC (eV (eN lenD (aC (eV (e2 ixD (eVar 1) (eC (.int 0)))) aN))) rN)))) (eV (eCall (Φ__law_same fuel__law_same) [] (rC (eV (e1 (fldD [0] "rows") (eVar 0))) (rC (eVar 1) rN)))))))
def Φ__law_is_book : List O → FRes := mk0 2 2 [] b__law_is_book
def ce__law_written_0 : Env → Res O := (eO (eVar 6))
def lb__law_written_0 : Env → SRes := (sSeq (sApp 2 (eN tupD (aC (eC (.str "visit")) (aC (eVar 6) (aC (eV (e2 ixD (eVar 4) (eC (.int 2)))) aN)))))
      (sSto 3 (eVar 6) (eV (e2 ixD (eV (e2 ixD (eVar 0) (eV (e2 ixD (eVar 4) (eC (.int 1)))))) (eV (e2 ixD (eVar 4) (eC (.int 2))))))))
def lb__law_written_1 : Env → SRes := (sIf (t2 eqD (eV (e2 ixD (eVar 4) (eC (.int 0)))) (eC (.str "come"))) (sSeq (sSet 2 (e2 addD (eFrz 2) (eV (e2 mulD (eV (eN lstD (aC (eV (eN tupD (aC (eC (.str "come")) aN))) aN))) (eV (e2 ixD (eVar 4) (eC (.int 1))))))))
      (sSet 3 (e2 addD (eFrz 3) (eV (e2 mulD (eV (eN lstD (aC (eC (.int 0)) aN))) (eV (e2 ixD (eVar 4) (eC (.int 1)))))))))
      (sSeq (sSet 5 (eO (eV (eSl slD (eV (eComp (iN rng1 (aC (ePeek (eV (eN lenD (aC (eVar 3) aN)))) aN)) (gN 6) (t2 eqD (eIxO 3 (eVar 6)) (eV (e2 ixD (eVar 4) (eC (.int 1))))) ce__law_written_0 [6])) pN (pS (eV (e2 ixD (eVar 4) (eC (.int 3)))))))))
      (sFor (iSeq (eVar 5)) (gN 6) lb__law_written_0)))
def b__law_written : Env → SRes := (sSeq (sAsg (gT (gC (gN 2) (gC (gN 3) gE))) (eV (eN tupD (aC (eV (eN lstD aN)) (aC (eV (eN lstD aN)) aN)))))
      (sSeq (sFor (iSeq (eVar 1)) (gN 4) lb__law_written_1)
      (sRet (eO (eFrz 2)))))
def Φ__law_written : List O → FRes := mk0 2 7 [] b__law_written
def b_need_book : Env → SRes := (sIf (tNt (tTru (eV (e1 (isI (isO 0)) (eVar 0))))) (fun _ => SRes.no)
      sNil)
def Φ_need_book : List O → FRes := mk0 2 2 [] b_need_book
def b_need_doors : Env → SRes := (sIf (tOr' (tNt (tTru (eV (e1 (isI (isO 1)) (eVar 0))))) (tAn (t2 notND (eVar 2) (eC .non)) (t2 neD (eV (eN lenD (aC (eV (e1 (fldD [1] "visits") (eVar 0))) aN))) (eVar 2)))) (fun _ => SRes.no)
      sNil)
def Φ_need_doors : List O → FRes := mk0 3 3 [] b_need_doors
def b_is_word : Env → SRes := (sRet (eO (eAn (eV (e1 (isI (isB "str")) (eVar 0))) (eV (e2 (fun x y => tst (eqD x y)) (eVar 0) (eVar 1))))))
def Φ_is_word : List O → FRes := mk0 2 2 [] b_is_word
def b_is_asking : Env → SRes := (sSeq (sIf (tOr' (tNt (tTru (eV (eCall Φ_is_row [] (rC (eVar 1) (rC (eC (.int 3)) rN)))))) (tNt (tTru (eV (eCall Φ_is_word [] (rC (eV (e2 ixD (eVar 1) (eC (.int 0)))) (rC (eC (.str "visit")) rN))))))) (sRet (eO (eC (.bl false))))
      sNil)
      (sRet (eO (eAn (eV (eCall Φ_is_below [] (rC (eV (e2 ixD (eVar 1) (eC (.int 1)))) (rC (eVar 2) rN)))) (eV (eCall Φ_is_below [] (rC (eV (e2 ixD (eVar 1) (eC (.int 2)))) (rC (eV (e1 (fldD [0] "kinds") (eVar 0))) rN))))))))
def Φ_is_asking : List O → FRes := mk0 3 3 [] b_is_asking
def b_is_coming : Env → SRes := (sRet (eO (eAn (eV (eCall Φ_is_row [] (rC (eVar 0) (rC (eC (.int 1)) rN)))) (eV (eCall Φ_is_word [] (rC (eV (e2 ixD (eVar 0) (eC (.int 0)))) (rC (eC (.str "come")) rN)))))))
def Φ_is_coming : List O → FRes := mk0 1 1 [] b_is_coming
def lb_need_pool_deeds_0 : Env → SRes := (sIf (tTru (eV (eCall Φ_is_coming [] (rC (eVar 4) rN)))) (sAug 2 (fun i j => i + j) (eC (.int 1)))
      (sIf (tNt (tTru (eV (eCall Φ_is_asking [] (rC (eVar 0) (rC (eVar 4) (rC (eVar 2) rN))))))) (fun _ => SRes.no)
      sNil))
def b_need_pool_deeds : Env → SRes := (sSeq (sIf (tOr' (tNt (tTru (eV (eCall Φ_is_sequence [] (rC (eVar 1) rN))))) (t2 (cmpD fun i j => decide (j < i)) (eV (eN lenD (aC (eVar 1) aN))) (eC (.int 400)))) (fun _ => SRes.no)
      sNil)
      (sSeq (sSet 2 (eO (eC (.int 0))))
      (sFor (iN enum1 (aC (eVar 1) aN)) (gT (gC (gN 3) (gC (gN 4) gE))) lb_need_pool_deeds_0)))
def Φ_need_pool_deeds : List O → FRes := mk0 2 5 [] b_need_pool_deeds
def ce_paid_0 : Env → Res O := (e2 addD (eV (e2 subD (eVar 2) (eVar 3))) (eVar 4))
def b_paid : Env → SRes := (sRet (eN tupOf (aC (eV (eComp (iSeq (eV (eN zipO3 (aC (eVar 0) (aC (eV (e2 ixD (eVar 1) (eC (.int 0)))) (aC (eV (e2 ixD (eVar 1) (eC (.int 1)))) aN)))))) (gT (gC (gN 2) (gC (gN 3) (gC (gN 4) gE)))) tTrue ce_paid_0 [2, 3, 4])) aN)))
def Φ_paid : List O → FRes := mk0 2 5 [] b_paid
def ce_covers_0 : Env → Res O := (e2 (fun x y => tst ((cmpD fun i j => decide (j ≤ i)) x y)) (eVar 2) (eVar 3))
def b_covers : Env → SRes := (sRet (eN allD (aC (eV (eComp (iSeq (eV (eN zipO2 (aC (eVar 0) (aC (eVar 1) aN))))) (gT (gC (gN 2) (gC (gN 3) gE))) tTrue ce_covers_0 [2, 3])) aN)))
def Φ_covers : List O → FRes := mk0 2 4 [] b_covers
def b_pool_answer : Env → SRes := (sSeq (sSet 5 (eO (eIxO 2 (eV (e2 ixD (eVar 4) (eC (.int 1)))))))
      (sSeq (sIf (t2 isND (eVar 5) (eC .non)) (sRet (eO (eC (.str "gone"))))
      sNil)
      (sSeq (sIf (tNt (tTru (eV (eCall Φ_covers [] (rC (eVar 3) (rC (eV (e2 ixD (eV (e2 ixD (eV (e1 (fldD [1] "visits") (eVar 1))) (eV (e2 ixD (eVar 4) (eC (.int 2)))))) (eC (.int 0)))) rN)))))) (sRet (eO (eC (.str "stopped"))))
      sNil)
      (sRet (eO (eIf (t2 isND (eV (e2 ixD (eV (e2 ixD (eV (e1 (fldD [0] "rows") (eVar 0))) (eVar 5))) (eV (e2 ixD (eVar 4) (eC (.int 2)))))) (eC .non)) (eC (.str "cheat")) (eC (.str "let"))))))))
def Φ_pool_answer : List O → FRes := mk0 5 6 [2] b_pool_answer
def ce_poured_0 : Env → Res O := (e2 addD (eVar 3) (eV (e2 mulD (eVar 2) (eVar 4))))
def b_poured : Env → SRes := (sRet (eN tupOf (aC (eV (eComp (iSeq (eV (eN zipO2 (aC (eVar 0) (aC (eVar 1) aN))))) (gT (gC (gN 3) (gC (gN 4) gE))) tTrue ce_poured_0 [3, 4])) aN)))
def Φ_poured : List O → FRes := mk0 3 5 [] b_poured
def lb_pooled_0 : Env → SRes := (sIf (t2 eqD (eV (eN lenD (aC (eVar 6) aN))) (eC (.int 1))) (sSeq (sApp 4 (eO (eC (.int 0))))
      (sSeq (sSet 5 (eO (eV (eCall Φ_poured [] (rC (eVar 5) (rC (eV (e1 (fldD [1] "purse") (eVar 1))) (rC (eC (.int 1)) rN)))))))
      (sApp 3 (eO (eC (.str "come"))))))
      (sSeq (sApp 3 (eCall Φ_pool_answer [] (rC (eVar 0) (rC (eVar 1) (rM 4 (rC (eVar 5) (rC (eVar 6) rN)))))))
      (sIf (t2 inD (eIxO 3 (eV (e1 negD (eC (.int 1))))) (eV (eN tupD (aC (eC (.str "let")) (aC (eC (.str "cheat")) aN))))) (sSeq (sSet 5 (eO (eV (eCall Φ_paid [] (rC (eVar 5) (rC (eV (e2 ixD (eV (e1 (fldD [1] "visits") (eVar 1))) (eV (e2 ixD (eVar 6) (eC (.int 2)))))) rN))))))
      (sSto 4 (eV (e2 ixD (eVar 6) (eC (.int 1)))) (eV (e2 ixD (eV (e2 ixD (eV (e1 (fldD [0] "rows") (eVar 0))) (eIxO 4 (eV (e2 ixD (eVar 6) (eC (.int 1))))))) (eV (e2 ixD (eVar 6) (eC (.int 2))))))))
      sNil)))
def b_pooled : Env → SRes := (sSeq (sEx (eV (eCall Φ_need_book [.int (-1)] (rC (eVar 0) rN))))
      (sSeq (sEx (eV (eCall Φ_need_doors [] (rC (eVar 1) (rC (eV (e1 negD (eC (.int 1)))) (rC (eV (e1 (fldD [0] "kinds") (eVar 0))) rN))))))
      (sSeq (sEx (eV (eCall Φ_need_pool_deeds [] (rC (eVar 0) (rC (eVar 2) rN)))))
      (sSeq (sSet 3 (eN lstD aN))
      (sSeq (sSet 4 (eN lstD aN))
      (sSeq (sSet 5 (eO (eV (e2 mulD (eV (eN tupD (aC (eC (.int 0)) aN))) (eV (eN lenD (aC (eV (e1 (fldD [1] "purse") (eVar 1))) aN)))))))
      (sSeq (sFor (iSeq (eVar 2)) (gN 6) lb_pooled_0)
      (sRet (eN tupD (aC (eV (eN tupOf (aC (eFrz 3) aN))) (aC (eV (eN tupOf (aC (eFrz 4) aN))) (aC (eVar 5) aN))))))))))))
def Φ_pooled : List O → FRes := mk0 3 7 [] b_pooled
def ce__law_is_written_0 : Env → Res O := (eO (eVar 7))
def ce__law_is_written_1 : Env → Res O := (eO (eVar 9))
def ce__law_is_written_2 : Env → Res O := (eN lenD (aC (eV (eComp (iSeq (eV (e2 ixD (eVar 5) (eC (.int 1))))) (gN 9) (t2 eqD (eVar 9) (eVar 8)) ce__law_is_written_1 [9])) aN))
def b__law_is_written : Env → SRes := (sSeq (sSet 5 (eO (eV (eCall Φ_pooled [] (rC (eVar 0) (rC (eVar 1) (rC (eV (eCall Φ__law_written [] (rC (eVar 2) (rC (eVar 3) rN)))) rN)))))))
      (sSeq (sIf (tOr' (tNt (tTru (eV (e1 (isI (isB "tuple")) (eVar 5))))) (tOr' (t2 neD (eV (eN lenD (aC (eVar 5) aN))) (eC (.int 3))) (t2 neD (eV (eComp (iSeq (eV (e2 ixD (eVar 5) (eC (.int 0))))) (gN 7) (tAn (t2 neD (eVar 7) (eC (.str "come"))) (t2 neD (eVar 7) (eC (.str "let")))) ce__law_is_written_0 [7])) (eV (eN lstD aN))))) (sRet (eO (eC (.bl false))))
      sNil)
      (sSeq (sSet 6 (eO (eV (eN tupOf (aC (eV (eComp (iN rng1 (aC (eV (eN lenD (aC (eVar 2) aN))) aN)) (gN 8) tTrue ce__law_is_written_2 [8])) aN)))))
      (sRet (eO (eAn (eV (eCall (Φ__law_same fuel__law_same) [] (rC (eV (e2 ixD (eVar 5) (eC (.int 2)))) (rC (eV (e2 ixD (eVar 4) (eC (.int 2)))) rN)))) (eV (e2 (fun x y => tst (eqD x y)) (eVar 6) (eV (e2 ixD (eVar 4) (eC (.int 1))))))))))))
def Φ__law_is_written : List O → FRes := mk0 5 10 [] b__law_is_written
def lb__law_plan_end_0 : Env → SRes := (sSeq (sSet 7 (eO (eV (e2 ixD (eVar 3) (eVar 6)))))
      (sIf (t2 eqD (eV (e2 ixD (eVar 7) (eC (.int 0)))) (eC (.str "come"))) (sAsg (gT (gC (gN 4) (gC (gN 5) gE))) (eV (eCall Φ__law_pool_come [] (rC (eVar 4) (rC (eVar 5) (rC (eVar 1) (rC (eV (e2 ixD (eVar 7) (eC (.int 1)))) rN)))))))
      (sSeq (sSet 8 (eO (eV (eCall Φ__law_pool_move [] (rC (eVar 0) (rC (eVar 2) (rC (eVar 4) (rC (eVar 5) (rC (eV (e2 ixD (eVar 7) (eC (.int 1)))) (rC (eV (e2 ixD (eVar 7) (eC (.int 2)))) (rC (eV (e2 ixD (eVar 7) (eC (.int 3)))) rN)))))))))))
      (sSeq (sIf (t2 isND (eVar 8) (eC .non)) (sRet (eN tupD (aC (eC (.str "stopped")) (aC (eVar 6) aN))))
      sNil)
      (sAsg (gT (gC (gN 4) (gC (gN 5) gE))) (eVar 8))))))
def b__law_plan_end : Env → SRes := (sSeq (sPar [4, 5] (oC (eO (eV (e2 mulD (eV (eN tupD (aC (eC (.int 0)) aN))) (eV (eN lenD (aC (eVar 0) aN)))))) (oC (eO (eV (e2 mulD (eV (eN tupD (aC (eC (.int 0)) aN))) (eV (eN lenD (aC (eVar 1) aN)))))) oN)))
      (sSeq (sFor (iN rng1 (aC (eV (eN lenD (aC (eVar 3) aN))) aN)) (gN 6) lb__law_plan_end_0)
      (sRet (eN tupD (aC (eC (.str "let")) (aC (eVar 4) (aC (eVar 5) aN)))))))
def Φ__law_plan_end : List O → FRes := mk0 4 9 [] b__law_plan_end
def ce__law_times_over_0 : Env → Res O := (e2 addD (eV (eSl slD (eVar 2) pN (pS (eV (e1 negD (eC (.int 1))))))) (eV (eN tupD (aC (eV (e2 mulD (eV (e2 ixD (eVar 2) (eV (e1 negD (eC (.int 1)))))) (eVar 1))) aN))))
def b__law_times_over : Env → SRes := (sRet (eN tupOf (aC (eV (eComp (iSeq (eVar 0)) (gN 2) tTrue ce__law_times_over_0 [2])) aN)))
def Φ__law_times_over : List O → FRes := mk0 2 3 [] b__law_times_over
def lb__law_mixed_0 : Env → SRes := (sSeq (sSet 4 (eO (eV (e2 addD (eVar 3) (eV (eCall Φ__law_take [] (rM 0 (rC (eV (e2 subD (ePeek (eV (eN lenD (aC (eVar 2) aN)))) (eVar 3))) rN))))))))
      (sSeq (sSet 5 (eO (eIxO 2 (eVar 3))))
      (sSeq (sSto 2 (eVar 3) (eIxO 2 (eVar 4)))
      (sSto 2 (eVar 4) (eVar 5)))))
def b__law_mixed : Env → SRes := (sSeq (sSet 2 (eN lstOf (aC (eVar 1) aN)))
      (sSeq (sFor (iN rng1 (aC (ePeek (eV (eN lenD (aC (eVar 2) aN)))) aN)) (gN 3) lb__law_mixed_0)
      (sRet (eO (eFrz 2)))))
def Φ__law_mixed : List O → FRes := mk0 2 6 [0] b__law_mixed
def b__law_turned_plan : Env → SRes := (sSeq (sPar [2, 3] (oC (eO (eV (eCall Φ__law_take [] (rM 0 (rC (eV (eN lenD (aC (eVar 1) aN))) rN))))) (oC (eO (eV (eCall Φ__law_take [] (rM 0 (rC (eC (.int 3)) rN))))) oN)))
      (sSeq (sIf (t2 eqD (eVar 3) (eC (.int 0))) (sRet (e2 addD (eV (eSl slD (eVar 1) pN (pS (eVar 2)))) (eV (eSl slD (eVar 1) (pS (eV (e2 addD (eVar 2) (eC (.int 1))))) pN))))
      sNil)
      (sSeq (sIf (t2 eqD (eVar 3) (eC (.int 1))) (sRet (e2 addD (eV (e2 addD (eV (eSl slD (eVar 1) pN (pS (eVar 2)))) (eV (eN tupD (aC (eV (e2 addD (eV (eSl slD (eV (e2 ixD (eVar 1) (eVar 2))) pN (pS (eV (e1 negD (eC (.int 1))))))) (eV (eN tupD (aC (eV (e2 addD (eV (e2 addD (eV (e2 ixD (eV (e2 ixD (eVar 1) (eVar 2))) (eV (e1 negD (eC (.int 1)))))) (eC (.int 1)))) (eV (eCall Φ__law_take [] (rM 0 (rC (eC (.int 3)) rN)))))) aN))))) aN))))) (eV (eSl slD (eVar 1) (pS (eV (e2 addD (eVar 2) (eC (.int 1))))) pN))))
      sNil)
      (sRet (eN tupOf (aC (eV (eCall Φ__law_mixed [] (rM 0 (rC (eVar 1) rN)))) aN))))))
def Φ__law_turned_plan : List O → FRes := mk0 2 4 [0] b__law_turned_plan
def b_is_times : Env → SRes := (sRet (eO (eAn (eV (eCall Φ_is_integer [] (rC (eVar 0) rN))) (eV (e2 (fun x y => tst ((cmpD fun i j => decide (j ≤ i)) x y)) (eVar 0) (eC (.int 1)))))))
def Φ_is_times : List O → FRes := mk0 1 1 [] b_is_times
def b_is_line : Env → SRes := (sSeq (sIf (tAn (tTru (eV (eCall Φ_is_row [] (rC (eVar 1) (rC (eC (.int 2)) rN))))) (tTru (eV (eCall Φ_is_word [] (rC (eV (e2 ixD (eVar 1) (eC (.int 0)))) (rC (eC (.str "come")) rN)))))) (sRet (eCall Φ_is_times [] (rC (eV (e2 ixD (eVar 1) (eC (.int 1)))) rN)))
      sNil)
      (sSeq (sIf (tOr' (tNt (tTru (eV (eCall Φ_is_row [] (rC (eVar 1) (rC (eC (.int 4)) rN)))))) (tOr' (tNt (tTru (eV (eCall Φ_is_word [] (rC (eV (e2 ixD (eVar 1) (eC (.int 0)))) (rC (eC (.str "visit")) rN)))))) (tNt (tTru (eV (eCall Φ_is_below [] (rC (eV (e2 ixD (eVar 1) (eC (.int 1)))) (rC (eV (eN lenD (aC (eV (e1 (fldD [0] "rows") (eVar 0))) aN))) rN)))))))) (sRet (eO (eC (.bl false))))
      sNil)
      (sSeq (sIf (tOr' (tNt (tTru (eV (eCall Φ_is_below [] (rC (eV (e2 ixD (eVar 1) (eC (.int 2)))) (rC (eV (e1 (fldD [0] "kinds") (eVar 0))) rN)))))) (t2 isND (eV (e2 ixD (eV (e2 ixD (eV (e1 (fldD [0] "rows") (eVar 0))) (eV (e2 ixD (eVar 1) (eC (.int 1)))))) (eV (e2 ixD (eVar 1) (eC (.int 2)))))) (eC .non))) (sRet (eO (eC (.bl false))))
      sNil)
      (sRet (eCall Φ_is_times [] (rC (eV (e2 ixD (eVar 1) (eC (.int 3)))) rN))))))
def Φ_is_line : List O → FRes := mk0 2 2 [] b_is_line
def lb_need_plan_0 : Env → SRes := (sIf (tOr' (tNt (tTru (eV (eCall Φ_is_line [] (rC (eVar 0) (rC (eVar 3) rN)))))) (tNt (tTru (eV (eCall Φ_is_between [] (rC (eV (e2 ixD (eVar 3) (eV (e1 negD (eC (.int 1)))))) (rC (eC (.int 1)) (rC (eC (.int 1000000000000000000000000000000)) rN)))))))) (fun _ => SRes.no)
      sNil)
def b_need_plan : Env → SRes := (sSeq (sIf (tOr' (tNt (tTru (eV (eCall Φ_is_sequence [] (rC (eVar 1) rN))))) (t2 (cmpD fun i j => decide (j < i)) (eV (eN lenD (aC (eVar 1) aN))) (eC (.int 200)))) (fun _ => SRes.no)
      sNil)
      (sFor (iN enum1 (aC (eVar 1) aN)) (gT (gC (gN 2) (gC (gN 3) gE))) lb_need_plan_0))
def Φ_need_plan : List O → FRes := mk0 2 4 [] b_need_plan
def ce_fare_before_0 : Env → Res O := (eN maxD (aC (eVar 5) (aC (eV (e2 addD (eV (e2 subD (eVar 7) (eVar 6))) (eVar 5))) aN)))
def b_fare_before : Env → SRes := (sSeq (sAsg (gT (gC (gN 3) (gC (gN 4) gE))) (eV (e2 ixD (eV (e1 (fldD [1] "visits") (eVar 0))) (eVar 1))))
      (sRet (eN tupOf (aC (eV (eComp (iSeq (eV (eN zipO3 (aC (eVar 3) (aC (eVar 4) (aC (eVar 2) aN)))))) (gT (gC (gN 5) (gC (gN 6) (gC (gN 7) gE)))) tTrue ce_fare_before_0 [5, 6, 7])) aN))))
def Φ_fare_before : List O → FRes := mk0 3 8 [] b_fare_before
def lb_fare_row_0 : Env → SRes := (sSet 2 (eO (eV (eCall Φ_fare_before [] (rC (eVar 0) (rC (eVar 3) (rC (eVar 2) rN)))))))
def b_fare_row : Env → SRes := (sSeq (sSet 2 (eO (eV (e2 mulD (eV (eN tupD (aC (eC (.int 0)) aN))) (eV (eN lenD (aC (eV (e1 (fldD [1] "purse") (eVar 0))) aN)))))))
      (sSeq (sFor (iRev (eVar 1)) (gN 3) lb_fare_row_0)
      (sRet (eO (eVar 2)))))
def Φ_fare_row : List O → FRes := mk0 2 4 [] b_fare_row
def ce_nets_of_0 : Env → Res O := (e2 subD (eVar 3) (eVar 2))
def ce_nets_of_1 : Env → Res O := (eN tupOf (aC (eV (eComp (iSeq (eV (eN zipO2 (aC (eV (e2 ixD (eVar 1) (eC (.int 0)))) (aC (eV (e2 ixD (eVar 1) (eC (.int 1)))) aN))))) (gT (gC (gN 2) (gC (gN 3) gE))) tTrue ce_nets_of_0 [2, 3])) aN))
def b_nets_of : Env → SRes := (sRet (eComp (iSeq (eV (e1 (fldD [1] "visits") (eVar 0)))) (gN 1) tTrue ce_nets_of_1 [1]))
def Φ_nets_of : List O → FRes := mk0 1 4 [] b_nets_of
def ce_net_row_0 : Env → Res O := (e2 addD (eVar 5) (eVar 6))
def lb_net_row_0 : Env → SRes := (sSet 3 (eO (eV (eComp (iSeq (eV (eN zipO2 (aC (eVar 3) (aC (eV (e2 ixD (eVar 2) (eVar 4))) aN))))) (gT (gC (gN 5) (gC (gN 6) gE))) tTrue ce_net_row_0 [5, 6]))))
def b_net_row : Env → SRes := (sSeq (sSet 2 (eO (eV (eCall Φ_nets_of [] (rC (eVar 0) rN)))))
      (sSeq (sSet 3 (eO (eV (e2 mulD (eV (eN lstD (aC (eC (.int 0)) aN))) (eV (eN lenD (aC (eV (e1 (fldD [1] "purse") (eVar 0))) aN)))))))
      (sSeq (sFor (iSeq (eVar 1)) (gN 4) lb_net_row_0)
      (sRet (eN tupOf (aC (eVar 3) aN))))))
def Φ_net_row : List O → FRes := mk0 2 7 [] b_net_row
def ce_fare_often_0 : Env → Res O := (e2 subD (eVar 4) (eV (e2 mulD (eV (eN minD (aC (eC (.int 0)) (aC (eVar 5) aN)))) (eV (e2 subD (eVar 2) (eC (.int 1)))))))
def b_fare_often : Env → SRes := (sSeq (sSet 3 (eO (eV (eN zipO2 (aC (eV (eCall Φ_fare_row [] (rC (eVar 0) (rC (eVar 1) rN)))) (aC (eV (eCall Φ_net_row [] (rC (eVar 0) (rC (eVar 1) rN)))) aN))))))
      (sRet (eN tupOf (aC (eV (eComp (iSeq (eVar 3)) (gTL (gC (gN 4) (gC (gN 5) gE))) tTrue ce_fare_often_0 [4, 5])) aN))))
def Φ_fare_often : List O → FRes := mk0 3 6 [] b_fare_often
def lb_plan_end_0 : Env → SRes := (sSeq (sSet 7 (eO (eV (e2 ixD (eVar 6) (eV (e1 negD (eC (.int 1))))))))
      (sIf (t2 eqD (eV (eN lenD (aC (eVar 6) aN))) (eC (.int 2))) (sSeq (sAugI 3 (fun i j => i + j) (eC (.int 0)) (eVar 7))
      (sSet 4 (eO (eV (eCall Φ_poured [] (rC (eVar 4) (rC (eV (e1 (fldD [1] "purse") (eVar 1))) (rC (eVar 7) rN))))))))
      (sSeq (sSet 8 (eO (eV (eN tupD (aC (eV (e2 ixD (eVar 6) (eC (.int 2)))) aN)))))
      (sSeq (sIf (tOr' (t2 (cmpD fun i j => decide (i < j)) (eIxO 3 (eV (e2 ixD (eVar 6) (eC (.int 1))))) (eVar 7)) (tNt (tTru (eV (eCall Φ_covers [] (rC (eVar 4) (rC (eV (eCall Φ_fare_often [] (rC (eVar 1) (rC (eVar 8) (rC (eVar 7) rN))))) rN))))))) (sRet (eN tupD (aC (eC (.str "stopped")) (aC (eVar 5) aN))))
      sNil)
      (sSeq (sAugI 3 (fun i j => i - j) (eV (e2 ixD (eVar 6) (eC (.int 1)))) (eVar 7))
      (sSeq (sAugI 3 (fun i j => i + j) (eV (e2 ixD (eV (e2 ixD (eV (e1 (fldD [0] "rows") (eVar 0))) (eV (e2 ixD (eVar 6) (eC (.int 1)))))) (eV (e2 ixD (eVar 6) (eC (.int 2)))))) (eVar 7))
      (sSet 4 (eO (eV (eCall Φ_poured [] (rC (eVar 4) (rC (eV (eCall Φ_net_row [] (rC (eVar 1) (rC (eVar 8) rN)))) (rC (eVar 7) rN)))))))))))))
def b_plan_end : Env → SRes := (sSeq (sSet 3 (e2 mulD (eV (eN lstD (aC (eC (.int 0)) aN))) (eV (eN lenD (aC (eV (e1 (fldD [0] "rows") (eVar 0))) aN)))))
      (sSeq (sSet 4 (eO (eV (e2 mulD (eV (eN tupD (aC (eC (.int 0)) aN))) (eV (eN lenD (aC (eV (e1 (fldD [1] "purse") (eVar 1))) aN)))))))
      (sSeq (sFor (iN enum1 (aC (eVar 2) aN)) (gT (gC (gN 5) (gC (gN 6) gE))) lb_plan_end_0)
      (sRet (eN tupD (aC (eC (.str "let")) (aC (eV (eN tupOf (aC (eFrz 3) aN))) (aC (eVar 4) aN))))))))
def Φ_plan_end : List O → FRes := mk0 3 9 [] b_plan_end
def b_carried : Env → SRes := (sSeq (sEx (eV (eCall Φ_need_book [.int (-1)] (rC (eVar 0) rN))))
      (sSeq (sEx (eV (eCall Φ_need_doors [] (rC (eVar 1) (rC (eV (e1 negD (eC (.int 1)))) (rC (eV (e1 (fldD [0] "kinds") (eVar 0))) rN))))))
      (sSeq (sEx (eV (eCall Φ_need_plan [] (rC (eVar 0) (rC (eVar 2) rN)))))
      (sRet (eCall Φ_plan_end [] (rC (eVar 0) (rC (eVar 1) (rC (eVar 2) rN))))))))
def Φ_carried : List O → FRes := mk0 3 3 [] b_carried
def lb_law_0 : Env → SRes := (sIf (tNt (tTru (eV (eCall (Φ__law_same fuel__law_same) [] (rC (eV (eCall Φ_carried [] (rC (eVar 6) (rC (eVar 7) (rC (eV (eCall (Φ__law_loose fuel__law_loose) [] (rM 1 (rC (eVar 12) rN)))) rN))))) (rC (eV (eCall Φ__law_plan_end [] (rC (eVar 3) (rC (eVar 4) (rC (eVar 5) (rC (eVar 12) rN)))))) rN)))))) (sRet (eO (eC (.bl false))))
      sNil)
def ce_law_0 : Env → Res O := (e2 addD (eV (e2 ixD (eV (e2 ixD (eVar 13) (eC (.int 1)))) (eVar 17))) (eV (e2 ixD (eV (e2 ixD (eVar 14) (eC (.int 1)))) (eVar 17))))
def ce_law_1 : Env → Res O := (e2 addD (eV (e2 ixD (eV (e2 ixD (eVar 13) (eC (.int 2)))) (eVar 17))) (eV (e2 ixD (eV (e2 ixD (eVar 14) (eC (.int 2)))) (eVar 17))))
def ce_law_2 : Env → Res O := (e2 mulD (eVar 18) (eVar 10))
def ce_law_3 : Env → Res O := (e2 mulD (eVar 18) (eVar 10))
def lb_law_1 : Env → SRes := (sSeq (sAsg (gT (gC (gN 3) (gC (gN 4) (gC (gN 5) gE)))) (eV (eCall Φ__law_crowd_case [] (rM 1 rN))))
      (sSeq (sPar [6, 7] (oC (eO (eV (eCall Φ__law_book [] (rM 1 (rC (eVar 3) rN))))) (oC (eO (eV (eCall Φ__law_doors [] (rM 1 (rC (eVar 4) (rC (eVar 5) rN)))))) oN)))
      (sSeq (sSet 8 (eO (eV (eCall Φ__law_drawn_plan [] (rM 1 (rC (eVar 3) (rC (eVar 4) (rC (eVar 5) (rC (eV (e2 addD (eC (.int 1)) (eV (eCall Φ__law_take [] (rM 1 (rC (eC (.int 20)) rN)))))) (rC (eC (.int 3)) rN))))))))))
      (sSeq (sSet 9 (eO (eV (eCall Φ__law_drawn_plan [] (rM 1 (rC (eVar 3) (rC (eVar 4) (rC (eVar 5) (rC (eV (e2 addD (eC (.int 1)) (eV (eCall Φ__law_take [] (rM 1 (rC (eC (.int 20)) rN)))))) (rC (eC (.int 8)) rN))))))))))
      (sSeq (sSet 10 (eO (eV (eCall Φ__law_pick [] (rM 1 (rC (eV (eN lstD (aC (eC (.int 1)) (aC (eC (.int 2)) (aC (eV (e2 (iiD powC fun i j => i ^ j.toNat) (eC (.int 10)) (eC (.int 9)))) (aC (eV (e2 (iiD powC fun i j => i ^ j.toNat) (eC (.int 10)) (eC (.int 28)))) aN)))))) rN))))))
      (sSeq (sSet 11 (eO (eV (eCall Φ__law_turned_plan [] (rM 1 (rC (eVar 8) rN))))))
      (sSeq (sFor (iSeq (eV (eN lstD (aC (eVar 8) (aC (eVar 9) (aC (eV (e2 addD (eVar 8) (eVar 9))) (aC (eV (e2 addD (eVar 9) (eVar 8))) (aC (eVar 11) (aC (eV (eCall Φ__law_times_over [] (rC (eVar 8) (rC (eVar 10) rN)))) (aC (eV (e2 addD (eVar 11) (eVar 9))) aN)))))))))) (gN 12) lb_law_0)
      (sSeq (sAsg (gT (gC (gN 13) (gC (gN 14) gE))) (eV (eN tupD (aC (eV (eCall Φ__law_plan_end [] (rC (eVar 3) (rC (eVar 4) (rC (eVar 5) (rC (eVar 8) rN)))))) (aC (eV (eCall Φ__law_plan_end [] (rC (eVar 3) (rC (eVar 4) (rC (eVar 5) (rC (eVar 9) rN)))))) aN)))))
      (sSeq (sSet 15 (eO (eV (eCall Φ_carried [] (rC (eVar 6) (rC (eVar 7) (rC (eV (e2 addD (eVar 8) (eVar 9))) rN)))))))
      (sSeq (sIf (tOr' (t2 neD (eV (e2 ixD (eVar 15) (eC (.int 0)))) (eC (.str "let"))) (t2 neD (eV (e2 ixD (eVar 15) (eC (.int 1)))) (eV (eN tupOf (aC (eV (eComp (iN rng1 (aC (eV (eN lenD (aC (eVar 3) aN))) aN)) (gN 17) tTrue ce_law_0 [17])) aN))))) (sRet (eO (eC (.bl false))))
      sNil)
      (sSeq (sIf (t2 neD (eV (e2 ixD (eVar 15) (eC (.int 2)))) (eV (eN tupOf (aC (eV (eComp (iN rng1 (aC (eV (eN lenD (aC (eVar 4) aN))) aN)) (gN 17) tTrue ce_law_1 [17])) aN)))) (sRet (eO (eC (.bl false))))
      sNil)
      (sSeq (sSet 16 (eO (eV (eCall Φ_carried [] (rC (eVar 6) (rC (eVar 7) (rC (eV (eCall Φ__law_times_over [] (rC (eVar 8) (rC (eVar 10) rN)))) rN)))))))
      (sSeq (sIf (tOr' (t2 neD (eV (e2 ixD (eVar 16) (eC (.int 0)))) (eC (.str "let"))) (t2 neD (eV (e2 ixD (eVar 16) (eC (.int 1)))) (eV (eN tupOf (aC (eV (eComp (iSeq (eV (e2 ixD (eVar 13) (eC (.int 1))))) (gN 18) tTrue ce_law_2 [18])) aN))))) (sRet (eO (eC (.bl false))))
      sNil)
      (sSeq (sIf (tOr' (t2 neD (eV (e2 ixD (eVar 16) (eC (.int 2)))) (eV (eN tupOf (aC (eV (eComp (iSeq (eV (e2 ixD (eVar 13) (eC (.int 2))))) (gN 18) tTrue ce_law_3 [18])) aN)))) (tNt (tTru (eV (eCall Φ__law_is_written [] (rC (eVar 6) (rC (eVar 7) (rC (eVar 3) (rC (eVar 8) (rC (eVar 13) rN)))))))))) (sRet (eO (eC (.bl false))))
      sNil)
      (sIf (tOr' (tNt (tTru (eV (eCall Φ__law_is_book [] (rC (eVar 6) (rC (eVar 3) rN)))))) (tNt (tTru (eV (eCall Φ__law_are_doors [] (rC (eVar 7) (rC (eVar 4) (rC (eVar 5) rN)))))))) (sRet (eO (eC (.bl false))))
      sNil)))))))))))))))
def b_law : Env → SRes := (sSeq (sSet 1 (eCall Φ__law_box [] (rC (eVar 0) rN)))
      (sSeq (sFor (iN rng1 (aC (eC (.int 2)) aN)) (gN 2) lb_law_1)
      (sRet (eO (eC (.bl true))))))
def Φ_law : List O → FRes := mk0 1 19 [] b_law
end Tk

set_option Elab.async false
set_option linter.all false
set_option maxRecDepth 100000
set_option maxHeartbeats 4000000
namespace Tk
open PySem PySem.Spec PyProof.Rows L2
/-! ## the text, by tkgen.py -/
def topk66 (i : Nat) : Stmt := PySem.Challenge.pw_takentickets_k66_whole_plans_carried.main.body.getD i (.Pass ⟨0, 0, 0, 0⟩)
def clk66 (K : PySem.W.Frag) : Nat → Addr
  | 0 => He.ga K "Book"
  | 1 => He.ga K "Doors"
  | _ => 0
abbrev s__law_is_int : Stmt := topk66 59
abbrev s__law_same : Stmt := topk66 60
abbrev s__law_are_doors : Stmt := topk66 69
abbrev s_is_integer : Stmt := topk66 11
abbrev s_is_below : Stmt := topk66 12
abbrev s_is_between : Stmt := topk66 13
abbrev s_is_sequence : Stmt := topk66 14
abbrev s_is_row : Stmt := topk66 15
abbrev s_Book___init__ : Stmt := inClass (topk66 20) 0
abbrev s__law_take : Stmt := topk66 55
abbrev s__law_loose : Stmt := topk66 58
abbrev s__law_book : Stmt := topk66 66
abbrev s__law_box : Stmt := topk66 54
abbrev s__law_hall : Stmt := topk66 64
abbrev s__law_pick : Stmt := topk66 56
abbrev s__law_number : Stmt := topk66 62
abbrev s__law_rows : Stmt := topk66 61
abbrev s__law_visits : Stmt := topk66 63
abbrev s__law_case : Stmt := topk66 65
abbrev s__law_crowd_case : Stmt := topk66 74
abbrev s_is_tickets : Stmt := topk66 26
abbrev s_is_visit : Stmt := topk66 27
abbrev s_Doors___init__ : Stmt := inClass (topk66 25) 0
abbrev s__law_doors : Stmt := topk66 67
abbrev s__law_pool_come : Stmt := topk66 71
abbrev s__law_pool_move : Stmt := topk66 70
abbrev s__law_drawn_plan : Stmt := topk66 73
abbrev s__law_is_book : Stmt := topk66 68
abbrev s__law_written : Stmt := topk66 77
abbrev s_need_book : Stmt := topk66 21
abbrev s_need_doors : Stmt := topk66 28
abbrev s_is_word : Stmt := topk66 16
abbrev s_is_asking : Stmt := topk66 44
abbrev s_is_coming : Stmt := topk66 43
abbrev s_need_pool_deeds : Stmt := topk66 45
abbrev s_paid : Stmt := topk66 30
abbrev s_covers : Stmt := topk66 29
abbrev s_pool_answer : Stmt := topk66 46
abbrev s_poured : Stmt := topk66 48
abbrev s_pooled : Stmt := topk66 47
abbrev s__law_is_written : Stmt := topk66 78
abbrev s__law_plan_end : Stmt := topk66 72
abbrev s__law_times_over : Stmt := topk66 75
abbrev s__law_mixed : Stmt := topk66 57
abbrev s__law_turned_plan : Stmt := topk66 76
abbrev s_is_times : Stmt := topk66 38
abbrev s_is_line : Stmt := topk66 49
abbrev s_need_plan : Stmt := topk66 50
abbrev s_fare_before : Stmt := topk66 33
abbrev s_fare_row : Stmt := topk66 34
abbrev s_nets_of : Stmt := topk66 31
abbrev s_net_row : Stmt := topk66 32
abbrev s_fare_often : Stmt := topk66 36
abbrev s_plan_end : Stmt := topk66 51
abbrev s_carried : Stmt := topk66 52
abbrev s_law : Stmt := topk66 79
theorem scs__law_is_int : FnScope ["value"] ["value"] (defScope s__law_is_int) := ⟨rfl, rfl, rfl, by decide +kernel, rfl, by decide +kernel, by decide +kernel⟩
theorem scs__law_same : FnScope ["value", "due", "at"] ["value", "due"] (defScope s__law_same) := ⟨rfl, rfl, rfl, by decide +kernel, rfl, by decide +kernel, by decide +kernel⟩
theorem scs__law_are_doors : FnScope ["doors", "purse", "visits"] ["doors", "purse", "visits"] (defScope s__law_are_doors) := ⟨rfl, rfl, rfl, by decide +kernel, rfl, by decide +kernel, by decide +kernel⟩
theorem scs_is_integer : FnScope ["value"] ["value"] (defScope s_is_integer) := ⟨rfl, rfl, rfl, by decide +kernel, rfl, by decide +kernel, by decide +kernel⟩
theorem scs_is_below : FnScope ["value", "limit"] ["value", "limit"] (defScope s_is_below) := ⟨rfl, rfl, rfl, by decide +kernel, rfl, by decide +kernel, by decide +kernel⟩
theorem scs_is_between : FnScope ["value", "least", "greatest"] ["value", "least", "greatest"] (defScope s_is_between) := ⟨rfl, rfl, rfl, by decide +kernel, rfl, by decide +kernel, by decide +kernel⟩
theorem scs_is_sequence : FnScope ["value"] ["value"] (defScope s_is_sequence) := ⟨rfl, rfl, rfl, by decide +kernel, rfl, by decide +kernel, by decide +kernel⟩
theorem scs_is_row : FnScope ["value", "many"] ["value", "many"] (defScope s_is_row) := ⟨rfl, rfl, rfl, by decide +kernel, rfl, by decide +kernel, by decide +kernel⟩
theorem scs_Book___init__ : FnScope ["self", "kinds", "rows", "at", "row", "to"] ["self", "kinds", "rows"] (defScope s_Book___init__) := ⟨rfl, rfl, rfl, by decide +kernel, rfl, by decide +kernel, by decide +kernel⟩
theorem scs__law_take : FnScope ["box", "many", "raw", "turn"] ["box", "many"] (defScope s__law_take) := ⟨rfl, rfl, rfl, by decide +kernel, rfl, by decide +kernel, by decide +kernel⟩
theorem scs__law_loose : FnScope ["box", "value", "parts", "part"] ["box", "value"] (defScope s__law_loose) := ⟨rfl, rfl, rfl, by decide +kernel, rfl, by decide +kernel, by decide +kernel⟩
theorem scs__law_book : FnScope ["box", "rows"] ["box", "rows"] (defScope s__law_book) := ⟨rfl, rfl, rfl, by decide +kernel, rfl, by decide +kernel, by decide +kernel⟩
theorem scs__law_box : FnScope ["script", "cells", "blend", "cell"] ["script"] (defScope s__law_box) := ⟨rfl, rfl, rfl, by decide +kernel, rfl, by decide +kernel, by decide +kernel⟩
theorem scs__law_hall : FnScope ["size", "rows", "at"] ["size"] (defScope s__law_hall) := ⟨rfl, rfl, rfl, by decide +kernel, rfl, by decide +kernel, by decide +kernel⟩
theorem scs__law_pick : FnScope ["box", "some"] ["box", "some"] (defScope s__law_pick) := ⟨rfl, rfl, rfl, by decide +kernel, rfl, by decide +kernel, by decide +kernel⟩
theorem scs__law_number : FnScope ["box", "most"] ["box", "most"] (defScope s__law_number) := ⟨rfl, rfl, rfl, by decide +kernel, rfl, by decide +kernel, by decide +kernel⟩
theorem scs__law_rows : FnScope ["box", "kinds", "states", "rows", "state", "kind"] ["box", "kinds", "states"] (defScope s__law_rows) := ⟨rfl, rfl, rfl, by decide +kernel, rfl, by decide +kernel, by decide +kernel⟩
theorem scs__law_visits : FnScope ["box", "kinds", "colours", "most", "visits", "kind", "at"] ["box", "kinds", "colours", "most"] (defScope s__law_visits) := ⟨rfl, rfl, rfl, by decide +kernel, rfl, by decide +kernel, by decide +kernel⟩
theorem scs__law_case : FnScope ["box", "sort", "size", "rows", "purse", "visits", "state", "kind", "to", "kinds", "states", "colours", "at"] ["box"] (defScope s__law_case) := ⟨rfl, rfl, rfl, by decide +kernel, rfl, by decide +kernel, by decide +kernel⟩
theorem scs__law_crowd_case : FnScope ["box", "sort", "kinds", "states", "colours", "rows", "visits", "kind", "fee", "gain", "at"] ["box"] (defScope s__law_crowd_case) := ⟨rfl, rfl, rfl, by decide +kernel, rfl, by decide +kernel, by decide +kernel⟩
theorem scs_is_tickets : FnScope ["value", "colours", "many"] ["value", "colours"] (defScope s_is_tickets) := ⟨rfl, rfl, rfl, by decide +kernel, rfl, by decide +kernel, by decide +kernel⟩
theorem scs_is_visit : FnScope ["value", "colours"] ["value", "colours"] (defScope s_is_visit) := ⟨rfl, rfl, rfl, by decide +kernel, rfl, by decide +kernel, by decide +kernel⟩
theorem scs_Doors___init__ : FnScope ["self", "purse", "visits", "at", "many", "visit", "fee", "gain"] ["self", "purse", "visits"] (defScope s_Doors___init__) := ⟨rfl, rfl, rfl, by decide +kernel, rfl, by decide +kernel, by decide +kernel⟩
theorem scs__law_doors : FnScope ["box", "purse", "visits"] ["box", "purse", "visits"] (defScope s__law_doors) := ⟨rfl, rfl, rfl, by decide +kernel, rfl, by decide +kernel, by decide +kernel⟩
theorem scs__law_pool_come : FnScope ["crowd", "pool", "purse", "times", "at"] ["crowd", "pool", "purse", "times"] (defScope s__law_pool_come) := ⟨rfl, rfl, rfl, by decide +kernel, rfl, by decide +kernel, by decide +kernel⟩
theorem scs__law_pool_move : FnScope ["rows", "visits", "crowd", "pool", "state", "kind", "times", "fee", "gain", "drain", "moved", "at"] ["rows", "visits", "crowd", "pool", "state", "kind", "times"] (defScope s__law_pool_move) := ⟨rfl, rfl, rfl, by decide +kernel, rfl, by decide +kernel, by decide +kernel⟩
theorem scs__law_drawn_plan : FnScope ["box", "rows", "purse", "visits", "lines", "most", "plan", "crowd", "pool", "turn", "state", "kind", "times", "end"] ["box", "rows", "purse", "visits", "lines", "most"] (defScope s__law_drawn_plan) := ⟨rfl, rfl, rfl, by decide +kernel, rfl, by decide +kernel, by decide +kernel⟩
theorem scs__law_is_book : FnScope ["book", "rows"] ["book", "rows"] (defScope s__law_is_book) := ⟨rfl, rfl, rfl, by decide +kernel, rfl, by decide +kernel, by decide +kernel⟩
theorem scs__law_written : FnScope ["rows", "plan", "deeds", "states", "line", "there", "guest"] ["rows", "plan"] (defScope s__law_written) := ⟨rfl, rfl, rfl, by decide +kernel, rfl, by decide +kernel, by decide +kernel⟩
theorem scs_need_book : FnScope ["value", "at"] ["value", "at"] (defScope s_need_book) := ⟨rfl, rfl, rfl, by decide +kernel, rfl, by decide +kernel, by decide +kernel⟩
theorem scs_need_doors : FnScope ["value", "at", "kinds"] ["value", "at", "kinds"] (defScope s_need_doors) := ⟨rfl, rfl, rfl, by decide +kernel, rfl, by decide +kernel, by decide +kernel⟩
theorem scs_is_word : FnScope ["value", "word"] ["value", "word"] (defScope s_is_word) := ⟨rfl, rfl, rfl, by decide +kernel, rfl, by decide +kernel, by decide +kernel⟩
theorem scs_is_asking : FnScope ["book", "value", "guests"] ["book", "value", "guests"] (defScope s_is_asking) := ⟨rfl, rfl, rfl, by decide +kernel, rfl, by decide +kernel, by decide +kernel⟩
theorem scs_is_coming : FnScope ["value"] ["value"] (defScope s_is_coming) := ⟨rfl, rfl, rfl, by decide +kernel, rfl, by decide +kernel, by decide +kernel⟩
theorem scs_need_pool_deeds : FnScope ["book", "deeds", "guests", "at", "deed"] ["book", "deeds"] (defScope s_need_pool_deeds) := ⟨rfl, rfl, rfl, by decide +kernel, rfl, by decide +kernel, by decide +kernel⟩
theorem scs_paid : FnScope ["purse", "visit", "many", "fee", "gain"] ["purse", "visit"] (defScope s_paid) := ⟨rfl, rfl, rfl, by decide +kernel, rfl, by decide +kernel, by decide +kernel⟩
theorem scs_covers : FnScope ["purse", "other", "one", "more"] ["purse", "other"] (defScope s_covers) := ⟨rfl, rfl, rfl, by decide +kernel, rfl, by decide +kernel, by decide +kernel⟩
theorem scs_pool_answer : FnScope ["book", "doors", "states", "pool", "deed", "state"] ["book", "doors", "states", "pool", "deed"] (defScope s_pool_answer) := ⟨rfl, rfl, rfl, by decide +kernel, rfl, by decide +kernel, by decide +kernel⟩
theorem scs_poured : FnScope ["pool", "purse", "times", "many", "more"] ["pool", "purse", "times"] (defScope s_poured) := ⟨rfl, rfl, rfl, by decide +kernel, rfl, by decide +kernel, by decide +kernel⟩
theorem scs_pooled : FnScope ["book", "doors", "deeds", "answers", "states", "pool", "deed"] ["book", "doors", "deeds"] (defScope s_pooled) := ⟨rfl, rfl, rfl, by decide +kernel, rfl, by decide +kernel, by decide +kernel⟩
theorem scs__law_is_written : FnScope ["book", "doors", "rows", "plan", "end", "told", "crowd", "one", "at", "state"] ["book", "doors", "rows", "plan", "end"] (defScope s__law_is_written) := ⟨rfl, rfl, rfl, by decide +kernel, rfl, by decide +kernel, by decide +kernel⟩
theorem scs__law_plan_end : FnScope ["rows", "purse", "visits", "plan", "crowd", "pool", "at", "line", "end"] ["rows", "purse", "visits", "plan"] (defScope s__law_plan_end) := ⟨rfl, rfl, rfl, by decide +kernel, rfl, by decide +kernel, by decide +kernel⟩
theorem scs__law_times_over : FnScope ["plan", "factor", "line"] ["plan", "factor"] (defScope s__law_times_over) := ⟨rfl, rfl, rfl, by decide +kernel, rfl, by decide +kernel, by decide +kernel⟩
theorem scs__law_mixed : FnScope ["box", "some", "found", "at", "other", "one"] ["box", "some"] (defScope s__law_mixed) := ⟨rfl, rfl, rfl, by decide +kernel, rfl, by decide +kernel, by decide +kernel⟩
theorem scs__law_turned_plan : FnScope ["box", "plan", "at", "sort"] ["box", "plan"] (defScope s__law_turned_plan) := ⟨rfl, rfl, rfl, by decide +kernel, rfl, by decide +kernel, by decide +kernel⟩
theorem scs_is_times : FnScope ["value"] ["value"] (defScope s_is_times) := ⟨rfl, rfl, rfl, by decide +kernel, rfl, by decide +kernel, by decide +kernel⟩
theorem scs_is_line : FnScope ["book", "value"] ["book", "value"] (defScope s_is_line) := ⟨rfl, rfl, rfl, by decide +kernel, rfl, by decide +kernel, by decide +kernel⟩
theorem scs_need_plan : FnScope ["book", "plan", "at", "line"] ["book", "plan"] (defScope s_need_plan) := ⟨rfl, rfl, rfl, by decide +kernel, rfl, by decide +kernel, by decide +kernel⟩
theorem scs_fare_before : FnScope ["doors", "kind", "fare", "fee", "gain", "cost", "more", "rest"] ["doors", "kind", "fare"] (defScope s_fare_before) := ⟨rfl, rfl, rfl, by decide +kernel, rfl, by decide +kernel, by decide +kernel⟩
theorem scs_fare_row : FnScope ["doors", "row", "fare", "kind"] ["doors", "row"] (defScope s_fare_row) := ⟨rfl, rfl, rfl, by decide +kernel, rfl, by decide +kernel, by decide +kernel⟩
theorem scs_nets_of : FnScope ["doors", "visit", "fee", "gain"] ["doors"] (defScope s_nets_of) := ⟨rfl, rfl, rfl, by decide +kernel, rfl, by decide +kernel, by decide +kernel⟩
theorem scs_net_row : FnScope ["doors", "row", "nets", "sums", "kind", "one", "more"] ["doors", "row"] (defScope s_net_row) := ⟨rfl, rfl, rfl, by decide +kernel, rfl, by decide +kernel, by decide +kernel⟩
theorem scs_fare_often : FnScope ["doors", "row", "times", "both", "fare", "net"] ["doors", "row", "times"] (defScope s_fare_often) := ⟨rfl, rfl, rfl, by decide +kernel, rfl, by decide +kernel, by decide +kernel⟩
theorem scs_plan_end : FnScope ["book", "doors", "plan", "numbers", "pool", "at", "line", "times", "row"] ["book", "doors", "plan"] (defScope s_plan_end) := ⟨rfl, rfl, rfl, by decide +kernel, rfl, by decide +kernel, by decide +kernel⟩
theorem scs_carried : FnScope ["book", "doors", "plan"] ["book", "doors", "plan"] (defScope s_carried) := ⟨rfl, rfl, rfl, by decide +kernel, rfl, by decide +kernel, by decide +kernel⟩
theorem scs_law : FnScope ["script", "box", "turn", "rows", "purse", "visits", "book", "doors", "plan", "other", "factor", "turned", "some", "one", "two", "both", "over", "at", "many"] ["script"] (defScope s_law) := ⟨rfl, rfl, rfl, by decide +kernel, rfl, by decide +kernel, by decide +kernel⟩
structure Wdk66 (K : PySem.W.Frag) (mg : Str → Option Value) : Prop where
  z_abs : mg "abs" = none
  z_all : mg "all" = none
  z_bool : mg "bool" = none
  z_enumerate : mg "enumerate" = none
  z_int : mg "int" = none
  z_isinstance : mg "isinstance" = none
  z_len : mg "len" = none
  z_list : mg "list" = none
  z_max : mg "max" = none
  z_min : mg "min" = none
  z_range : mg "range" = none
  z_reversed : mg "reversed" = none
  z_str : mg "str" = none
  z_tuple : mg "tuple" = none
  z_zip : mg "zip" = none
  i_MOST_COLOURS : ∃ t, mg "MOST_COLOURS" = some (.int 60 t)
  i_MOST_KINDS : ∃ t, mg "MOST_KINDS" = some (.int 6 t)
  i_MOST_LINES : ∃ t, mg "MOST_LINES" = some (.int 200 t)
  i_MOST_PLANNED : ∃ t, mg "MOST_PLANNED" = some (.int 1000000000000000000000000000000 t)
  i_MOST_POOL_DEEDS : ∃ t, mg "MOST_POOL_DEEDS" = some (.int 400 t)
  i_MOST_STATES : ∃ t, mg "MOST_STATES" = some (.int 40 t)
  i_MOST_TICKETS : ∃ t, mg "MOST_TICKETS" = some (.int 1000000000000000000 t)
  c_Book : mg "Book" = some (.ref (clk66 K 0))
  c_Doors : mg "Doors" = some (.ref (clk66 K 1))
  k_Book : ClsI K (clk66 K 0)
  k_Doors : ClsI K (clk66 K 1)
  f_kinds : ∀ c, c ∈ [0] → Cls K (clk66 K c) ∧ NoAttr K (clk66 K c) "kinds"
  f_rows : ∀ c, c ∈ [0] → Cls K (clk66 K c) ∧ NoAttr K (clk66 K c) "rows"
  f_purse : ∀ c, c ∈ [1] → Cls K (clk66 K c) ∧ NoAttr K (clk66 K c) "purse"
  f_visits : ∀ c, c ∈ [1] → Cls K (clk66 K c) ∧ NoAttr K (clk66 K c) "visits"
  g__law_is_int : mg "_law_is_int" = some (.ref (He.ga K "_law_is_int"))
  d__law_is_int : ∃ fd, FunD K "_law_is_int" "_law_is_int" (defArgs s__law_is_int) (defBody s__law_is_int) (defScope s__law_is_int) [] [] (He.ga K "_law_is_int") fd
  g__law_same : mg "_law_same" = some (.ref (He.ga K "_law_same"))
  d__law_same : ∃ fd, FunD K "_law_same" "_law_same" (defArgs s__law_same) (defBody s__law_same) (defScope s__law_same) [] [] (He.ga K "_law_same") fd
  g__law_are_doors : mg "_law_are_doors" = some (.ref (He.ga K "_law_are_doors"))
  d__law_are_doors : ∃ fd, FunD K "_law_are_doors" "_law_are_doors" (defArgs s__law_are_doors) (defBody s__law_are_doors) (defScope s__law_are_doors) [] [] (He.ga K "_law_are_doors") fd
  g_is_integer : mg "is_integer" = some (.ref (He.ga K "is_integer"))
  d_is_integer : ∃ fd, FunD K "is_integer" "is_integer" (defArgs s_is_integer) (defBody s_is_integer) (defScope s_is_integer) [] [] (He.ga K "is_integer") fd
  g_is_below : mg "is_below" = some (.ref (He.ga K "is_below"))
  d_is_below : ∃ fd, FunD K "is_below" "is_below" (defArgs s_is_below) (defBody s_is_below) (defScope s_is_below) [] [] (He.ga K "is_below") fd
  g_is_between : mg "is_between" = some (.ref (He.ga K "is_between"))
  d_is_between : ∃ fd, FunD K "is_between" "is_between" (defArgs s_is_between) (defBody s_is_between) (defScope s_is_between) [] [] (He.ga K "is_between") fd
  g_is_sequence : mg "is_sequence" = some (.ref (He.ga K "is_sequence"))
  d_is_sequence : ∃ fd, FunD K "is_sequence" "is_sequence" (defArgs s_is_sequence) (defBody s_is_sequence) (defScope s_is_sequence) [] [] (He.ga K "is_sequence") fd
  g_is_row : mg "is_row" = some (.ref (He.ga K "is_row"))
  d_is_row : ∃ fd, FunD K "is_row" "is_row" (defArgs s_is_row) (defBody s_is_row) (defScope s_is_row) [] [] (He.ga K "is_row") fd
  m_Book___init__ : Mk K (clk66 K 0) (He.ma K (He.ga K "Book") "__init__")
  d_Book___init__ : ∃ fd, FunD K "__init__" "Book.__init__" (defArgs s_Book___init__) (defBody s_Book___init__) (defScope s_Book___init__) [] [] (He.ma K (He.ga K "Book") "__init__") fd
  g__law_take : mg "_law_take" = some (.ref (He.ga K "_law_take"))
  d__law_take : ∃ fd, FunD K "_law_take" "_law_take" (defArgs s__law_take) (defBody s__law_take) (defScope s__law_take) [] [] (He.ga K "_law_take") fd
  g__law_loose : mg "_law_loose" = some (.ref (He.ga K "_law_loose"))
  d__law_loose : ∃ fd, FunD K "_law_loose" "_law_loose" (defArgs s__law_loose) (defBody s__law_loose) (defScope s__law_loose) [] [] (He.ga K "_law_loose") fd
  g__law_book : mg "_law_book" = some (.ref (He.ga K "_law_book"))
  d__law_book : ∃ fd, FunD K "_law_book" "_law_book" (defArgs s__law_book) (defBody s__law_book) (defScope s__law_book) [] [] (He.ga K "_law_book") fd
  g__law_box : mg "_law_box" = some (.ref (He.ga K "_law_box"))
  d__law_box : ∃ fd, FunD K "_law_box" "_law_box" (defArgs s__law_box) (defBody s__law_box) (defScope s__law_box) [] [] (He.ga K "_law_box") fd
  g__law_hall : mg "_law_hall" = some (.ref (He.ga K "_law_hall"))
  d__law_hall : ∃ fd, FunD K "_law_hall" "_law_hall" (defArgs s__law_hall) (defBody s__law_hall) (defScope s__law_hall) [] [] (He.ga K "_law_hall") fd
  g__law_pick : mg "_law_pick" = some (.ref (He.ga K "_law_pick"))
  d__law_pick : ∃ fd, FunD K "_law_pick" "_law_pick" (defArgs s__law_pick) (defBody s__law_pick) (defScope s__law_pick) [] [] (He.ga K "_law_pick") fd
  g__law_number : mg "_law_number" = some (.ref (He.ga K "_law_number"))
  d__law_number : ∃ fd, FunD K "_law_number" "_law_number" (defArgs s__law_number) (defBody s__law_number) (defScope s__law_number) [] [] (He.ga K "_law_number") fd
  g__law_rows : mg "_law_rows" = some (.ref (He.ga K "_law_rows"))
  d__law_rows : ∃ fd, FunD K "_law_rows" "_law_rows" (defArgs s__law_rows) (defBody s__law_rows) (defScope s__law_rows) [] [] (He.ga K "_law_rows") fd
  g__law_visits : mg "_law_visits" = some (.ref (He.ga K "_law_visits"))
  d__law_visits : ∃ fd, FunD K "_law_visits" "_law_visits" (defArgs s__law_visits) (defBody s__law_visits) (defScope s__law_visits) [] [] (He.ga K "_law_visits") fd
  g__law_case : mg "_law_case" = some (.ref (He.ga K "_law_case"))
  d__law_case : ∃ fd, FunD K "_law_case" "_law_case" (defArgs s__law_case) (defBody s__law_case) (defScope s__law_case) [] [] (He.ga K "_law_case") fd
  g__law_crowd_case : mg "_law_crowd_case" = some (.ref (He.ga K "_law_crowd_case"))
  d__law_crowd_case : ∃ fd, FunD K "_law_crowd_case" "_law_crowd_case" (defArgs s__law_crowd_case) (defBody s__law_crowd_case) (defScope s__law_crowd_case) [] [] (He.ga K "_law_crowd_case") fd
  g_is_tickets : mg "is_tickets" = some (.ref (He.ga K "is_tickets"))
  d_is_tickets : ∃ fd, FunD K "is_tickets" "is_tickets" (defArgs s_is_tickets) (defBody s_is_tickets) (defScope s_is_tickets) [] [] (He.ga K "is_tickets") fd
  g_is_visit : mg "is_visit" = some (.ref (He.ga K "is_visit"))
  d_is_visit : ∃ fd, FunD K "is_visit" "is_visit" (defArgs s_is_visit) (defBody s_is_visit) (defScope s_is_visit) [] [] (He.ga K "is_visit") fd
  m_Doors___init__ : Mk K (clk66 K 1) (He.ma K (He.ga K "Doors") "__init__")
  d_Doors___init__ : ∃ fd, FunD K "__init__" "Doors.__init__" (defArgs s_Doors___init__) (defBody s_Doors___init__) (defScope s_Doors___init__) [] [] (He.ma K (He.ga K "Doors") "__init__") fd
  g__law_doors : mg "_law_doors" = some (.ref (He.ga K "_law_doors"))
  d__law_doors : ∃ fd, FunD K "_law_doors" "_law_doors" (defArgs s__law_doors) (defBody s__law_doors) (defScope s__law_doors) [] [] (He.ga K "_law_doors") fd
  g__law_pool_come : mg "_law_pool_come" = some (.ref (He.ga K "_law_pool_come"))
  d__law_pool_come : ∃ fd, FunD K "_law_pool_come" "_law_pool_come" (defArgs s__law_pool_come) (defBody s__law_pool_come) (defScope s__law_pool_come) [] [] (He.ga K "_law_pool_come") fd
  g__law_pool_move : mg "_law_pool_move" = some (.ref (He.ga K "_law_pool_move"))
  d__law_pool_move : ∃ fd, FunD K "_law_pool_move" "_law_pool_move" (defArgs s__law_pool_move) (defBody s__law_pool_move) (defScope s__law_pool_move) [] [] (He.ga K "_law_pool_move") fd
  g__law_drawn_plan : mg "_law_drawn_plan" = some (.ref (He.ga K "_law_drawn_plan"))
  d__law_drawn_plan : ∃ fd, FunD K "_law_drawn_plan" "_law_drawn_plan" (defArgs s__law_drawn_plan) (defBody s__law_drawn_plan) (defScope s__law_drawn_plan) [] [] (He.ga K "_law_drawn_plan") fd
  g__law_is_book : mg "_law_is_book" = some (.ref (He.ga K "_law_is_book"))
  d__law_is_book : ∃ fd, FunD K "_law_is_book" "_law_is_book" (defArgs s__law_is_book) (defBody s__law_is_book) (defScope s__law_is_book) [] [] (He.ga K "_law_is_book") fd
  g__law_written : mg "_law_written" = some (.ref (He.ga K "_law_written"))
  d__law_written : ∃ fd, FunD K "_law_written" "_law_written" (defArgs s__law_written) (defBody s__law_written) (defScope s__law_written) [] [] (He.ga K "_law_written") fd
  g_need_book : mg "need_book" = some (.ref (He.ga K "need_book"))
  d_need_book : ∃ fd, FunD K "need_book" "need_book" (defArgs s_need_book) (defBody s_need_book) (defScope s_need_book) [.int (-1)] [] (He.ga K "need_book") fd
  g_need_doors : mg "need_doors" = some (.ref (He.ga K "need_doors"))
  d_need_doors : ∃ fd, FunD K "need_doors" "need_doors" (defArgs s_need_doors) (defBody s_need_doors) (defScope s_need_doors) [.int (-1), .non] [] (He.ga K "need_doors") fd
  g_is_word : mg "is_word" = some (.ref (He.ga K "is_word"))
  d_is_word : ∃ fd, FunD K "is_word" "is_word" (defArgs s_is_word) (defBody s_is_word) (defScope s_is_word) [] [] (He.ga K "is_word") fd
  g_is_asking : mg "is_asking" = some (.ref (He.ga K "is_asking"))
  d_is_asking : ∃ fd, FunD K "is_asking" "is_asking" (defArgs s_is_asking) (defBody s_is_asking) (defScope s_is_asking) [] [] (He.ga K "is_asking") fd
  g_is_coming : mg "is_coming" = some (.ref (He.ga K "is_coming"))
  d_is_coming : ∃ fd, FunD K "is_coming" "is_coming" (defArgs s_is_coming) (defBody s_is_coming) (defScope s_is_coming) [] [] (He.ga K "is_coming") fd
  g_need_pool_deeds : mg "need_pool_deeds" = some (.ref (He.ga K "need_pool_deeds"))
  d_need_pool_deeds : ∃ fd, FunD K "need_pool_deeds" "need_pool_deeds" (defArgs s_need_pool_deeds) (defBody s_need_pool_deeds) (defScope s_need_pool_deeds) [] [] (He.ga K "need_pool_deeds") fd
  g_paid : mg "paid" = some (.ref (He.ga K "paid"))
  d_paid : ∃ fd, FunD K "paid" "paid" (defArgs s_paid) (defBody s_paid) (defScope s_paid) [] [] (He.ga K "paid") fd
  g_covers : mg "covers" = some (.ref (He.ga K "covers"))
  d_covers : ∃ fd, FunD K "covers" "covers" (defArgs s_covers) (defBody s_covers) (defScope s_covers) [] [] (He.ga K "covers") fd
  g_pool_answer : mg "pool_answer" = some (.ref (He.ga K "pool_answer"))
  d_pool_answer : ∃ fd, FunD K "pool_answer" "pool_answer" (defArgs s_pool_answer) (defBody s_pool_answer) (defScope s_pool_answer) [] [] (He.ga K "pool_answer") fd
  g_poured : mg "poured" = some (.ref (He.ga K "poured"))
  d_poured : ∃ fd, FunD K "poured" "poured" (defArgs s_poured) (defBody s_poured) (defScope s_poured) [] [] (He.ga K "poured") fd
  g_pooled : mg "pooled" = some (.ref (He.ga K "pooled"))
  d_pooled : ∃ fd, FunD K "pooled" "pooled" (defArgs s_pooled) (defBody s_pooled) (defScope s_pooled) [] [] (He.ga K "pooled") fd
  g__law_is_written : mg "_law_is_written" = some (.ref (He.ga K "_law_is_written"))
  d__law_is_written : ∃ fd, FunD K "_law_is_written" "_law_is_written" (defArgs s__law_is_written) (defBody s__law_is_written) (defScope s__law_is_written) [] [] (He.ga K "_law_is_written") fd
  g__law_plan_end : mg "_law_plan_end" = some (.ref (He.ga K "_law_plan_end"))
  d__law_plan_end : ∃ fd, FunD K "_law_plan_end" "_law_plan_end" (defArgs s__law_plan_end) (defBody s__law_plan_end) (defScope s__law_plan_end) [] [] (He.ga K "_law_plan_end") fd
  g__law_times_over : mg "_law_times_over" = some (.ref (He.ga K "_law_times_over"))
  d__law_times_over : ∃ fd, FunD K "_law_times_over" "_law_times_over" (defArgs s__law_times_over) (defBody s__law_times_over) (defScope s__law_times_over) [] [] (He.ga K "_law_times_over") fd
  g__law_mixed : mg "_law_mixed" = some (.ref (He.ga K "_law_mixed"))
  d__law_mixed : ∃ fd, FunD K "_law_mixed" "_law_mixed" (defArgs s__law_mixed) (defBody s__law_mixed) (defScope s__law_mixed) [] [] (He.ga K "_law_mixed") fd
  g__law_turned_plan : mg "_law_turned_plan" = some (.ref (He.ga K "_law_turned_plan"))
  d__law_turned_plan : ∃ fd, FunD K "_law_turned_plan" "_law_turned_plan" (defArgs s__law_turned_plan) (defBody s__law_turned_plan) (defScope s__law_turned_plan) [] [] (He.ga K "_law_turned_plan") fd
  g_is_times : mg "is_times" = some (.ref (He.ga K "is_times"))
  d_is_times : ∃ fd, FunD K "is_times" "is_times" (defArgs s_is_times) (defBody s_is_times) (defScope s_is_times) [] [] (He.ga K "is_times") fd
  g_is_line : mg "is_line" = some (.ref (He.ga K "is_line"))
  d_is_line : ∃ fd, FunD K "is_line" "is_line" (defArgs s_is_line) (defBody s_is_line) (defScope s_is_line) [] [] (He.ga K "is_line") fd
  g_need_plan : mg "need_plan" = some (.ref (He.ga K "need_plan"))
  d_need_plan : ∃ fd, FunD K "need_plan" "need_plan" (defArgs s_need_plan) (defBody s_need_plan) (defScope s_need_plan) [] [] (He.ga K "need_plan") fd
  g_fare_before : mg "fare_before" = some (.ref (He.ga K "fare_before"))
  d_fare_before : ∃ fd, FunD K "fare_before" "fare_before" (defArgs s_fare_before) (defBody s_fare_before) (defScope s_fare_before) [] [] (He.ga K "fare_before") fd
  g_fare_row : mg "fare_row" = some (.ref (He.ga K "fare_row"))
  d_fare_row : ∃ fd, FunD K "fare_row" "fare_row" (defArgs s_fare_row) (defBody s_fare_row) (defScope s_fare_row) [] [] (He.ga K "fare_row") fd
  g_nets_of : mg "nets_of" = some (.ref (He.ga K "nets_of"))
  d_nets_of : ∃ fd, FunD K "nets_of" "nets_of" (defArgs s_nets_of) (defBody s_nets_of) (defScope s_nets_of) [] [] (He.ga K "nets_of") fd
  g_net_row : mg "net_row" = some (.ref (He.ga K "net_row"))
  d_net_row : ∃ fd, FunD K "net_row" "net_row" (defArgs s_net_row) (defBody s_net_row) (defScope s_net_row) [] [] (He.ga K "net_row") fd
  g_fare_often : mg "fare_often" = some (.ref (He.ga K "fare_often"))
  d_fare_often : ∃ fd, FunD K "fare_often" "fare_often" (defArgs s_fare_often) (defBody s_fare_often) (defScope s_fare_often) [] [] (He.ga K "fare_often") fd
  g_plan_end : mg "plan_end" = some (.ref (He.ga K "plan_end"))
  d_plan_end : ∃ fd, FunD K "plan_end" "plan_end" (defArgs s_plan_end) (defBody s_plan_end) (defScope s_plan_end) [] [] (He.ga K "plan_end") fd
  g_carried : mg "carried" = some (.ref (He.ga K "carried"))
  d_carried : ∃ fd, FunD K "carried" "carried" (defArgs s_carried) (defBody s_carried) (defScope s_carried) [] [] (He.ga K "carried") fd
  g_law : mg "law" = some (.ref (He.ga K "law"))
  d_law : ∃ fd, FunD K "law" "law" (defArgs s_law) (defBody s_law) (defScope s_law) [] [] (He.ga K "law") fd
section
variable {P : Program} {w : World} {K : PySem.W.Frag} {mg : Str → Option Value} {base : Heap}
theorem ok__law_is_int (W : Wdk66 K mg) : Fnc P w K mg base (clk66 K) "_law_is_int" 1 [] Φ__law_is_int :=
  fnc_mk (k := 0) W.d__law_is_int scs__law_is_int W.g__law_is_int (fun cdv A outer s H E hr =>
      (s_one (s_ret (oo (m_and (vv (m_isi (cv := .ty "int") (ClsV.ty "int") isa_B (by rfl) W.z_isinstance (m_var 0 (pv 0)) (pe_bltn (by rfl) W.z_int (by rfl) rfl))) (m_one (m_not (vv (m_isi (cv := .ty "bool") (ClsV.ty "bool") isa_B (by rfl) W.z_isinstance (m_var 0 (pv 0)) (pe_bltn (by rfl) W.z_bool (by rfl) rfl))))))))))
      (fun _ _ _ _ _ _ us hl => match us, hl with | [_], _ => rfl)
theorem ok__law_same (W : Wdk66 K mg) (C__law_is_int : Fnc P w K mg base (clk66 K) "_law_is_int" 1 [] Φ__law_is_int) : ∀ n, Fnc P w K mg base (clk66 K) "_law_same" (2 + n) [] (Φ__law_same n)
  | 0 => fnc_no (k := 1) W.d__law_same scs__law_same W.g__law_same (fun _ _ _ _ _ _ us hl => match us, hl with | [_, _], _ => rfl)
  | n + 1 => by
    have C__law_same := ok__law_same W C__law_is_int n
    exact fnc_mk (k := 2 + n) W.d__law_same scs__law_same W.g__law_same (fun cdv A outer s H E hr =>
      (s_seq (s_if (mT_truth (vv (m_isi (cv := .ty "tuple") (ClsV.ty "tuple") isa_B (by rfl) W.z_isinstance (m_var 1 (pv 1)) (pe_bltn (by rfl) W.z_tuple (by rfl) rfl)))) (s_seq (s_if (mW_or (mT_not (mT_truth (vv (m_isi (cv := .ty "tuple") (ClsV.ty "tuple") isa_B (by rfl) W.z_isinstance (m_var 0 (pv 0)) (pe_bltn (by rfl) W.z_tuple (by rfl) rfl))))) (mW_or1 (mT_cmp (op_neD hr.units) pr_ne (vv (m_cb call_len_seq pr_len (by rfl) W.z_len (by rfl) (a_cons (m_var 0 (pv 0)) a_nil))) (vv (m_cb call_len_seq pr_len (by rfl) W.z_len (by rfl) (a_cons (m_var 1 (pv 1)) a_nil)))))).pt (s_one (s_ret (oo m_bl)))
      s_nil)
      (s_one (s_ret (m_cmp (op_eqD hr.units) pr_eq (vv (m_comp rfl scs__law_same.nd (i_range1 (by rfl) W.z_range (a_cons (vv (m_cb call_len_seq pr_len (by rfl) W.z_len (by rfl) (a_cons (m_var 1 (pv 1)) a_nil))) a_nil)) (own := [("at", 2)]) (blk_ok (by kernel_rfl)) (fun _ _ _ _ _ => (g_name (i := 2) scs__law_same.nd rfl (by first | exact Or.inl rfl | exact Or.inr rfl))) (fun _ _ _ _ _ => ts_one (mT_not (mT_truth (vv (m_callF C__law_same (hr.mono (by omega)) (by rfl) (r_cons (vv (m_ix ix_A pr_ix (m_var 0 (pv 0)) (m_var 2 (pv 2)))) (r_cons (vv (m_ix ix_A pr_ix (m_var 1 (pv 1)) (m_var 2 (pv 2)))) r_nil))))))) (fun _ _ _ _ _ => (oo (m_var 2 (pv 2)))))) (vv (m_lst a_nil))))))
      s_nil)
      (s_seq (s_if (mT_cmp op_isN pr_isN (m_var 1 (pv 1)) m_non) (s_one (s_ret (m_cmp op_isN pr_isN (m_var 0 (pv 0)) m_non)))
      s_nil)
      (s_seq (s_if (mT_truth (vv (m_isi (cv := .ty "str") (ClsV.ty "str") isa_B (by rfl) W.z_isinstance (m_var 1 (pv 1)) (pe_bltn (by rfl) W.z_str (by rfl) rfl)))) (s_one (s_ret (oo (m_and (vv (m_isi (cv := .ty "str") (ClsV.ty "str") isa_B (by rfl) W.z_isinstance (m_var 0 (pv 0)) (pe_bltn (by rfl) W.z_str (by rfl) rfl))) (m_one (vv (m_cmp (op_eqD hr.units) pr_eq (m_var 0 (pv 0)) (m_var 1 (pv 1)))))))))
      s_nil)
      (s_one (s_ret (oo (m_and (vv (m_callF C__law_is_int (hr.mono (by omega)) (by rfl) (r_cons (m_var 0 (pv 0)) r_nil))) (m_one (vv (m_cmp (op_eqD hr.units) pr_eq (m_var 0 (pv 0)) (m_var 1 (pv 1)))))))))))))
      (fun _ _ _ _ _ _ us hl => match us, hl with | [_, _], _ => rfl)
theorem ok__law_are_doors (W : Wdk66 K mg) (C__law_same : Fnc P w K mg base (clk66 K) "_law_same" 8 [] (Φ__law_same fuel__law_same)) : Fnc P w K mg base (clk66 K) "_law_are_doors" 9 [] Φ__law_are_doors :=
  fnc_mk (k := 8) W.d__law_are_doors scs__law_are_doors W.g__law_are_doors (fun cdv A outer s H E hr =>
      (s_one (s_ret (oo (m_and (vv (m_isi (cv := .ref (clk66 K 1)) (ClsV.own _) (isa_O W.k_Doors) (by rfl) W.z_isinstance (m_var 0 (pv 0)) (pe_glob (by rfl) W.c_Doors rfl))) (m_and (vv (m_callF C__law_same (hr.mono (by decide)) (by rfl) (r_cons (vv (m_fld (cs := [1]) W.f_purse (m_var 0 (pv 0)))) (r_cons (m_var 1 (pv 1)) r_nil)))) (m_one (vv (m_callF C__law_same (hr.mono (by decide)) (by rfl) (r_cons (vv (m_fld (cs := [1]) W.f_visits (m_var 0 (pv 0)))) (r_cons (m_var 2 (pv 2)) r_nil)))))))))))
      (fun _ _ _ _ _ _ us hl => match us, hl with | [_, _, _], _ => rfl)
theorem ok_is_integer (W : Wdk66 K mg) : Fnc P w K mg base (clk66 K) "is_integer" 1 [] Φ_is_integer :=
  fnc_mk (k := 0) W.d_is_integer scs_is_integer W.g_is_integer (fun cdv A outer s H E hr =>
      (s_one (s_ret (oo (m_and (vv (m_isi (cv := .ty "int") (ClsV.ty "int") isa_B (by rfl) W.z_isinstance (m_var 0 (pv 0)) (pe_bltn (by rfl) W.z_int (by rfl) rfl))) (m_one (m_not (vv (m_isi (cv := .ty "bool") (ClsV.ty "bool") isa_B (by rfl) W.z_isinstance (m_var 0 (pv 0)) (pe_bltn (by rfl) W.z_bool (by rfl) rfl))))))))))
      (fun _ _ _ _ _ _ us hl => match us, hl with | [_], _ => rfl)
theorem ok_is_below (W : Wdk66 K mg) (C_is_integer : Fnc P w K mg base (clk66 K) "is_integer" 1 [] Φ_is_integer) : Fnc P w K mg base (clk66 K) "is_below" 2 [] Φ_is_below :=
  fnc_mk (k := 1) W.d_is_below scs_is_below W.g_is_below (fun cdv A outer s H E hr =>
      (s_one (s_ret (oo (m_and (vv (m_callF C_is_integer (hr.mono (by decide)) (by rfl) (r_cons (m_var 0 (pv 0)) r_nil))) (m_one (m_chain op_le pr_cmp op_lt pr_cmp m_int (m_var 0 (pv 0)) (m_var 1 (pv 1)))))))))
      (fun _ _ _ _ _ _ us hl => match us, hl with | [_, _], _ => rfl)
theorem ok_is_between (W : Wdk66 K mg) (C_is_integer : Fnc P w K mg base (clk66 K) "is_integer" 1 [] Φ_is_integer) : Fnc P w K mg base (clk66 K) "is_between" 2 [] Φ_is_between :=
  fnc_mk (k := 1) W.d_is_between scs_is_between W.g_is_between (fun cdv A outer s H E hr =>
      (s_one (s_ret (oo (m_and (vv (m_callF C_is_integer (hr.mono (by decide)) (by rfl) (r_cons (m_var 0 (pv 0)) r_nil))) (m_one (m_chain op_le pr_cmp op_le pr_cmp (m_var 1 (pv 1)) (m_var 0 (pv 0)) (m_var 2 (pv 2)))))))))
      (fun _ _ _ _ _ _ us hl => match us, hl with | [_, _, _], _ => rfl)
theorem ok_is_sequence (W : Wdk66 K mg) : Fnc P w K mg base (clk66 K) "is_sequence" 1 [] Φ_is_sequence :=
  fnc_mk (k := 0) W.d_is_sequence scs_is_sequence W.g_is_sequence (fun cdv A outer s H E hr =>
      (s_one (s_ret (m_isi2 (A := "list") (B := "tuple") (by rfl) W.z_isinstance (m_var 0 (pv 0)) (pe_bltn (by rfl) W.z_list (by rfl) rfl) (pe_bltn (by rfl) W.z_tuple (by rfl) rfl)))))
      (fun _ _ _ _ _ _ us hl => match us, hl with | [_], _ => rfl)
theorem ok_is_row (W : Wdk66 K mg) (C_is_sequence : Fnc P w K mg base (clk66 K) "is_sequence" 1 [] Φ_is_sequence) : Fnc P w K mg base (clk66 K) "is_row" 2 [] Φ_is_row :=
  fnc_mk (k := 1) W.d_is_row scs_is_row W.g_is_row (fun cdv A outer s H E hr =>
      (s_one (s_ret (oo (m_and (vv (m_callF C_is_sequence (hr.mono (by decide)) (by rfl) (r_cons (m_var 0 (pv 0)) r_nil))) (m_one (vv (m_cmp (op_eqD hr.units) pr_eq (vv (m_cb call_len_seq pr_len (by rfl) W.z_len (by rfl) (a_cons (m_var 0 (pv 0)) a_nil))) (m_var 1 (pv 1))))))))))
      (fun _ _ _ _ _ _ us hl => match us, hl with | [_, _], _ => rfl)
theorem ok_Book___init__ (W : Wdk66 K mg) (C_is_below : Fnc P w K mg base (clk66 K) "is_below" 2 [] Φ_is_below) (C_is_between : Fnc P w K mg base (clk66 K) "is_between" 2 [] Φ_is_between) (C_is_row : Fnc P w K mg base (clk66 K) "is_row" 2 [] Φ_is_row) (C_is_sequence : Fnc P w K mg base (clk66 K) "is_sequence" 1 [] Φ_is_sequence) : Ini P w K mg base (clk66 K) "Book" 0 3 Φ_Book___init__ :=
  ini_mk (k := 2) W.m_Book___init__ W.d_Book___init__ scs_Book___init__ W.c_Book (fun cdv A outer s H E hr =>
      (s_seq (s_if (mT_not (mT_truth (vv (m_callF C_is_between (hr.mono (by decide)) (by rfl) (r_cons (m_var 1 (pv 1)) (r_cons m_int (r_cons (m_gint (by rfl) W.i_MOST_KINDS) r_nil))))))) (s_one s_no)
      s_nil)
      (s_seq (s_if (mW_or (mT_not (mT_truth (vv (m_callF C_is_sequence (hr.mono (by decide)) (by rfl) (r_cons (m_var 2 (pv 2)) r_nil))))) (mW_or1 (mT_not (mT_truth (vv (m_callF C_is_between (hr.mono (by decide)) (by rfl) (r_cons (vv (m_cb call_len_seq pr_len (by rfl) W.z_len (by rfl) (a_cons (m_var 2 (pv 2)) a_nil))) (r_cons m_int (r_cons (m_gint (by rfl) W.i_MOST_STATES) r_nil))))))))).pt (s_one s_no)
      s_nil)
      (s_seq (s_for PassesOwn.never rfl (i_enum (by rfl) W.z_enumerate (a_cons (m_var 2 (pv 2)) a_nil)) (g_tup rfl (gs_cons (g_name (i := 3) scs_Book___init__.nd rfl (by first | exact Or.inl rfl | exact Or.inr rfl)) (gs_cons (g_name (i := 4) scs_Book___init__.nd rfl (by first | exact Or.inl rfl | exact Or.inr rfl)) gs_nil)) (gC_len (gC_len gE_len))) (s_one (s_if (mW_or (mT_not (mT_truth (vv (m_callF C_is_row (hr.mono (by decide)) (by rfl) (r_cons (m_var 4 (pv 4)) (r_cons (m_var 1 (pv 1)) r_nil)))))) (mW_or1 (mT_not (mT_truth (vv (m_cb (cr_all rfl) pr_all (by rfl) W.z_all (by rfl) (a_cons (vv (m_comp rfl scs_Book___init__.nd (i_seq (m_var 4 (pv 4))) (own := [("to", 5)]) (blk_ok (by kernel_rfl)) (fun _ _ _ _ _ => (g_name (i := 5) scs_Book___init__.nd rfl (by first | exact Or.inl rfl | exact Or.inr rfl))) (fun _ _ _ _ _ => ts_nil) (fun _ _ _ _ _ => (oo (m_or (vv (m_cmp op_isN pr_isN (m_var 5 (pv 5)) m_non)) (m_one (vv (m_callF C_is_below (hr.mono (by decide)) (by rfl) (r_cons (m_var 5 (pv 5)) (r_cons (vv (m_cb call_len_seq pr_len (by rfl) W.z_len (by rfl) (a_cons (m_var 2 (pv 2)) a_nil))) r_nil)))))))))) a_nil))))))).pt (s_one s_no)
      s_nil)))
      (s_seq (s_fld (cs := [0]) 0 W.f_kinds (pv 0) (m_var 1 (pv 1)))
      (s_one (s_fld (cs := [0]) 0 W.f_rows (pv 0) (vv (m_ct call_tuple_of pr_tuple (by rfl) W.z_tuple (by rfl) (a_cons (vv (m_comp rfl scs_Book___init__.nd (i_seq (m_var 2 (pv 2))) (own := [("row", 4)]) (blk_ok (by kernel_rfl)) (fun _ _ _ _ _ => (g_name (i := 4) scs_Book___init__.nd rfl (by first | exact Or.inl rfl | exact Or.inr rfl))) (fun _ _ _ _ _ => ts_nil) (fun _ _ _ _ _ => (m_ct call_tuple_of pr_tuple (by rfl) W.z_tuple (by rfl) (a_cons (m_var 4 (pv 4)) a_nil))))) a_nil))))))))))
      (fun _ _ _ _ _ _ us hl => match us, hl with | [_, _, _], _ => rfl)
theorem ok__law_take (W : Wdk66 K mg) : Fnc P w K mg base (clk66 K) "_law_take" 1 [] Φ__law_take :=
  fnc_mk (k := 0) W.d__law_take scs__law_take W.g__law_take (fun cdv A outer s H E hr =>
      (s_seq (s_store 0 (pv 0) m_int (vv (m_op op_addA pr_add (m_ixO 0 (pv 0) m_int) m_int)))
      (s_seq (s_if (mW_and (mT_cmp op_le pr_cmp (m_ixO 0 (pv 0) m_int) (vv (m_cb call_len_seq pr_len (by rfl) W.z_len (by rfl) (a_cons (m_ixO 0 (pv 0) m_int) a_nil)))) (mW_and1 (mT_cmp op_lt pr_cmp (m_var 1 (pv 1)) m_int))).pt (s_one (s_ret (m_op op_mod pr_mod (vv (m_ct call_int1 pr_int (by rfl) W.z_int (by rfl) (a_cons (vv (m_ix ix_A pr_ix (m_ixO 0 (pv 0) m_int) (vv (m_op op_sub pr_sub (m_ixO 0 (pv 0) m_int) m_int)))) a_nil))) (m_var 1 (pv 1)))))
      s_nil)
      (s_seq (s_set (i := 2) scs__law_take.nd rfl (by first | exact Or.inl rfl | exact Or.inr rfl) (oo m_int))
      (s_seq (s_for PassesOwn.never rfl (i_range1 (by rfl) W.z_range (a_cons (m_if (mT_cmp op_lt pr_cmp (m_var 1 (pv 1)) (vv (m_op op_pow pr_pow m_int m_int))) m_int m_int) a_nil)) (g_name (i := 3) scs__law_take.nd rfl (by first | exact Or.inl rfl | exact Or.inr rfl)) (s_seq (s_store 0 (pv 0) m_int (vv (m_op op_mod pr_mod (vv (m_ct call_int1 pr_int (by rfl) W.z_int (by rfl) (a_cons (vv (m_op op_addA pr_add (vv (m_op op_mulA pr_mul (m_ixO 0 (pv 0) m_int) m_int)) m_int)) a_nil))) m_int)))
      (s_one (s_set (i := 2) scs__law_take.nd rfl (by first | exact Or.inl rfl | exact Or.inr rfl) (oo (vv (m_op op_addA pr_add (vv (m_op op_mulA pr_mul (m_var 2 (pv 2)) m_int)) (m_ixO 0 (pv 0) m_int))))))))
      (s_one (s_ret (m_op op_mod pr_mod (vv (m_ct call_int1 pr_int (by rfl) W.z_int (by rfl) (a_cons (vv (m_op op_fdivW pr_div (m_var 2 (pv 2)) m_int)) a_nil))) (m_var 1 (pv 1))))))))))
      (fun _ _ _ _ _ _ us hl => match us, hl with | [_, _], _ => rfl)
theorem ok__law_loose (W : Wdk66 K mg) (C__law_take : Fnc P w K mg base (clk66 K) "_law_take" 1 [] Φ__law_take) : ∀ n, Fnc P w K mg base (clk66 K) "_law_loose" (2 + n) [] (Φ__law_loose n)
  | 0 => fnc_no (k := 1) W.d__law_loose scs__law_loose W.g__law_loose (fun _ _ _ _ _ _ us hl => match us, hl with | [_, _], _ => rfl)
  | n + 1 => by
    have C__law_loose := ok__law_loose W C__law_take n
    exact fnc_mk (k := 2 + n) W.d__law_loose scs__law_loose W.g__law_loose (fun cdv A outer s H E hr =>
      (s_seq (s_if (mW_or (mT_truth (vv (m_isi (cv := .ty "list") (ClsV.ty "list") isa_B (by rfl) W.z_isinstance (m_var 1 (pv 1)) (pe_bltn (by rfl) W.z_list (by rfl) rfl)))) (mW_or1 (mT_truth (vv (m_isi (cv := .ty "tuple") (ClsV.ty "tuple") isa_B (by rfl) W.z_isinstance (m_var 1 (pv 1)) (pe_bltn (by rfl) W.z_tuple (by rfl) rfl)))))).pt (s_seq (s_setLcF (i := 2) rfl scs__law_loose.nd rfl rfl (by rfl) (i_seq (m_var 1 (pv 1))) (own := [("part", 3)]) (blk_ok (by kernel_rfl)) (fun _ _ _ _ _ => (g_name (i := 3) scs__law_loose.nd rfl (by first | exact Or.inl rfl | exact Or.inr rfl))) (fun _ _ _ _ _ => ts_nil) (fun _ _ _ _ _ => (m_callF C__law_loose (hr.mono (by omega)) (by rfl) (r_mut 0 (pv 0) (r_cons (m_var 3 (pv 3)) r_nil)))))
      (s_one (s_ret (oo (m_if (mT_cmp (op_eqD hr.units) pr_eq (vv (m_callF C__law_take (hr.mono (by omega)) (by rfl) (r_mut 0 (pv 0) (r_cons m_int r_nil)))) m_int) (m_var 2 (pv 2)) (vv (m_ct call_tuple_of pr_tuple (by rfl) W.z_tuple (by rfl) (a_cons (m_var 2 (pv 2)) a_nil))))))))
      s_nil)
      (s_one (s_ret (oo (m_var 1 (pv 1)))))))
      (fun _ _ _ _ _ _ us hl => match us, hl with | [_, _], _ => rfl)
theorem ok__law_book (W : Wdk66 K mg) (C_Book___init__ : Ini P w K mg base (clk66 K) "Book" 0 3 Φ_Book___init__) (C__law_loose : Fnc P w K mg base (clk66 K) "_law_loose" 8 [] (Φ__law_loose fuel__law_loose)) : Fnc P w K mg base (clk66 K) "_law_book" 9 [] Φ__law_book :=
  fnc_mk (k := 8) W.d__law_book scs__law_book W.g__law_book (fun cdv A outer s H E hr =>
      (s_one (s_ret (m_makeF C_Book___init__ (hr.mono (by decide)) (by rfl) (a_cons (vv (m_cb call_len_seq pr_len (by rfl) W.z_len (by rfl) (a_cons (vv (m_ix ix_A pr_ix (m_var 1 (pv 1)) m_int)) a_nil))) (a_cons (vv (m_callF C__law_loose (hr.mono (by decide)) (by rfl) (r_mut 0 (pv 0) (r_cons (m_var 1 (pv 1)) r_nil)))) a_nil))))))
      (fun _ _ _ _ _ _ us hl => match us, hl with | [_, _], _ => rfl)
theorem ok__law_box (W : Wdk66 K mg) : Fnc P w K mg base (clk66 K) "_law_box" 1 [] Φ__law_box :=
  fnc_mk (k := 0) W.d__law_box scs__law_box W.g__law_box (fun cdv A outer s H E hr =>
      (s_seq (s_setLcF (i := 1) rfl scs__law_box.nd rfl rfl (by rfl) (i_seq (vv (m_sl sl_all' pr_sl (m_var 0 (pv 0)) p_none (p_some m_int)))) (own := [("cell", 3)]) (blk_ok (by kernel_rfl)) (fun _ _ _ _ _ => (g_name (i := 3) scs__law_box.nd rfl (by first | exact Or.inl rfl | exact Or.inr rfl))) (fun _ _ _ _ _ => ts_nil) (fun _ _ _ _ _ => (m_op op_mod pr_mod (vv (m_cb call_abs pr_abs (by rfl) W.z_abs (by rfl) (a_cons (vv (m_ct call_int1 pr_int (by rfl) W.z_int (by rfl) (a_cons (m_var 3 (pv 3)) a_nil))) a_nil))) m_int)))
      (s_seq (s_set (i := 2) scs__law_box.nd rfl (by first | exact Or.inl rfl | exact Or.inr rfl) (oo m_int))
      (s_seq (s_for PassesOwn.never rfl (i_seq (m_var 1 (pv 1))) (g_name (i := 3) scs__law_box.nd rfl (by first | exact Or.inl rfl | exact Or.inr rfl)) (s_one (s_set (i := 2) scs__law_box.nd rfl (by first | exact Or.inl rfl | exact Or.inr rfl) (oo (vv (m_op op_mod pr_mod (vv (m_ct call_int1 pr_int (by rfl) W.z_int (by rfl) (a_cons (vv (m_op op_addA pr_add (vv (m_op op_addA pr_add (vv (m_op op_mulA pr_mul (m_var 2 (pv 2)) m_int)) (vv (m_op op_mulA pr_mul (m_var 3 (pv 3)) m_int)))) m_int)) a_nil))) m_int))))))
      (s_one (s_ret (m_lst (a_cons (m_var 1 (pv 1)) (a_cons (m_var 2 (pv 2)) (a_cons m_int a_nil))))))))))
      (fun _ _ _ _ _ _ us hl => match us, hl with | [_], _ => rfl)
theorem ok__law_hall (W : Wdk66 K mg) : Fnc P w K mg base (clk66 K) "_law_hall" 1 [] Φ__law_hall :=
  fnc_mk (k := 0) W.d__law_hall scs__law_hall W.g__law_hall (fun cdv A outer s H E hr =>
      (s_seq (s_set (i := 1) scs__law_hall.nd rfl (by first | exact Or.inl rfl | exact Or.inr rfl) (oo (vv (m_ct call_tuple_of pr_tuple (by rfl) W.z_tuple (by rfl) (a_cons (vv (m_comp rfl scs__law_hall.nd (i_range1 (by rfl) W.z_range (a_cons (vv (m_op op_addA pr_add (m_var 0 (pv 0)) m_int)) a_nil)) (own := [("at", 2)]) (blk_ok (by kernel_rfl)) (fun _ _ _ _ _ => (g_name (i := 2) scs__law_hall.nd rfl (by first | exact Or.inl rfl | exact Or.inr rfl))) (fun _ _ _ _ _ => ts_nil) (fun _ _ _ _ _ => (m_tup (a_cons (m_if (mT_cmp op_lt pr_cmp (m_var 2 (pv 2)) (m_var 0 (pv 0))) (vv (m_op op_addA pr_add (m_var 2 (pv 2)) m_int)) m_non) (a_cons (m_if (mT_cmp op_gt pr_cmp (m_var 2 (pv 2)) m_int) (vv (m_op op_sub pr_sub (m_var 2 (pv 2)) m_int)) m_non) a_nil)))))) a_nil)))))
      (s_one (s_ret (m_tup (a_cons (m_var 1 (pv 1)) (a_cons (vv (m_tup (a_cons m_int (a_cons (m_var 0 (pv 0)) a_nil)))) (a_cons (vv (m_tup (a_cons (vv (m_tup (a_cons (vv (m_tup (a_cons m_int (a_cons m_int a_nil)))) (a_cons (vv (m_tup (a_cons m_int (a_cons m_int a_nil)))) a_nil)))) (a_cons (vv (m_tup (a_cons (vv (m_tup (a_cons m_int (a_cons m_int a_nil)))) (a_cons (vv (m_tup (a_cons m_int (a_cons m_int a_nil)))) a_nil)))) a_nil)))) a_nil))))))))
      (fun _ _ _ _ _ _ us hl => match us, hl with | [_], _ => rfl)
theorem ok__law_pick (W : Wdk66 K mg) (C__law_take : Fnc P w K mg base (clk66 K) "_law_take" 1 [] Φ__law_take) : Fnc P w K mg base (clk66 K) "_law_pick" 2 [] Φ__law_pick :=
  fnc_mk (k := 1) W.d__law_pick scs__law_pick W.g__law_pick (fun cdv A outer s H E hr =>
      (s_one (s_ret (m_ix ix_A pr_ix (m_var 1 (pv 1)) (vv (m_callF C__law_take (hr.mono (by decide)) (by rfl) (r_mut 0 (pv 0) (r_cons (vv (m_cb call_len_seq pr_len (by rfl) W.z_len (by rfl) (a_cons (m_var 1 (pv 1)) a_nil))) r_nil))))))))
      (fun _ _ _ _ _ _ us hl => match us, hl with | [_, _], _ => rfl)
theorem ok__law_number (W : Wdk66 K mg) (C__law_pick : Fnc P w K mg base (clk66 K) "_law_pick" 2 [] Φ__law_pick) (C__law_take : Fnc P w K mg base (clk66 K) "_law_take" 1 [] Φ__law_take) : Fnc P w K mg base (clk66 K) "_law_number" 3 [] Φ__law_number :=
  fnc_mk (k := 2) W.d__law_number scs__law_number W.g__law_number (fun cdv A outer s H E hr =>
      (s_one (s_ret (m_callF C__law_pick (hr.mono (by decide)) (by rfl) (r_mut 0 (pv 0) (r_cons (vv (m_lst (a_cons m_int (a_cons m_int (a_cons m_int (a_cons m_int (a_cons (vv (m_callF C__law_take (hr.mono (by decide)) (by rfl) (r_mut 0 (pv 0) (r_cons (vv (m_op op_addA pr_add (m_var 1 (pv 1)) m_int)) r_nil)))) a_nil))))))) r_nil))))))
      (fun _ _ _ _ _ _ us hl => match us, hl with | [_, _], _ => rfl)
theorem ok__law_rows (W : Wdk66 K mg) (C__law_pick : Fnc P w K mg base (clk66 K) "_law_pick" 2 [] Φ__law_pick) (C__law_take : Fnc P w K mg base (clk66 K) "_law_take" 1 [] Φ__law_take) : Fnc P w K mg base (clk66 K) "_law_rows" 3 [] Φ__law_rows :=
  fnc_mk (k := 2) W.d__law_rows scs__law_rows W.g__law_rows (fun cdv A outer s H E hr =>
      (s_seq (s_set (i := 3) scs__law_rows.nd rfl (by first | exact Or.inl rfl | exact Or.inr rfl) (m_lst a_nil))
      (s_seq (s_for PassesOwn.never rfl (i_range1 (by rfl) W.z_range (a_cons (m_var 2 (pv 2)) a_nil)) (g_name (i := 4) scs__law_rows.nd rfl (by first | exact Or.inl rfl | exact Or.inr rfl)) (s_one (s_append 3 (pv 3) (m_ct call_tuple_of pr_tuple (by rfl) W.z_tuple (by rfl) (a_cons (vv (m_comp rfl scs__law_rows.nd (i_range1 (by rfl) W.z_range (a_cons (m_var 1 (pv 1)) a_nil)) (own := [("kind", 5)]) (blk_ok (by kernel_rfl)) (fun _ _ _ _ _ => (g_name (i := 5) scs__law_rows.nd rfl (by first | exact Or.inl rfl | exact Or.inr rfl))) (fun _ _ _ _ _ => ts_nil) (fun _ _ _ _ _ => (m_callF C__law_pick (hr.mono (by decide)) (by rfl) (r_mut 0 (pv 0) (r_cons (vv (m_lst (a_cons m_non (a_cons (vv (m_callF C__law_take (hr.mono (by decide)) (by rfl) (r_mut 0 (pv 0) (r_cons (m_var 2 (pv 2)) r_nil)))) (a_cons (vv (m_op op_mod pr_mod (vv (m_op op_addA pr_add (m_var 4 (pv 4)) m_int)) (m_var 2 (pv 2)))) a_nil))))) r_nil)))))) a_nil)))))
      (s_one (s_ret (m_ct call_tuple_of pr_tuple (by rfl) W.z_tuple (by rfl) (a_cons (m_frz 3 (pv 3)) a_nil)))))))
      (fun _ _ _ _ _ _ us hl => match us, hl with | [_, _, _], _ => rfl)
theorem ok__law_visits (W : Wdk66 K mg) (C__law_number : Fnc P w K mg base (clk66 K) "_law_number" 3 [] Φ__law_number) : Fnc P w K mg base (clk66 K) "_law_visits" 4 [] Φ__law_visits :=
  fnc_mk (k := 3) W.d__law_visits scs__law_visits W.g__law_visits (fun cdv A outer s H E hr =>
      (s_seq (s_set (i := 4) scs__law_visits.nd rfl (by first | exact Or.inl rfl | exact Or.inr rfl) (m_lst a_nil))
      (s_seq (s_for PassesOwn.never rfl (i_range1 (by rfl) W.z_range (a_cons (m_var 1 (pv 1)) a_nil)) (g_name (i := 5) scs__law_visits.nd rfl (by first | exact Or.inl rfl | exact Or.inr rfl)) (s_one (s_append 4 (pv 4) (m_tup (a_cons (vv (m_ct call_tuple_of pr_tuple (by rfl) W.z_tuple (by rfl) (a_cons (vv (m_comp rfl scs__law_visits.nd (i_range1 (by rfl) W.z_range (a_cons (m_var 2 (pv 2)) a_nil)) (own := [("at", 6)]) (blk_ok (by kernel_rfl)) (fun _ _ _ _ _ => (g_name (i := 6) scs__law_visits.nd rfl (by first | exact Or.inl rfl | exact Or.inr rfl))) (fun _ _ _ _ _ => ts_nil) (fun _ _ _ _ _ => (m_callF C__law_number (hr.mono (by decide)) (by rfl) (r_mut 0 (pv 0) (r_cons (m_var 3 (pv 3)) r_nil)))))) a_nil))) (a_cons (vv (m_ct call_tuple_of pr_tuple (by rfl) W.z_tuple (by rfl) (a_cons (vv (m_comp rfl scs__law_visits.nd (i_range1 (by rfl) W.z_range (a_cons (m_var 2 (pv 2)) a_nil)) (own := [("at", 6)]) (blk_ok (by kernel_rfl)) (fun _ _ _ _ _ => (g_name (i := 6) scs__law_visits.nd rfl (by first | exact Or.inl rfl | exact Or.inr rfl))) (fun _ _ _ _ _ => ts_nil) (fun _ _ _ _ _ => (m_callF C__law_number (hr.mono (by decide)) (by rfl) (r_mut 0 (pv 0) (r_cons (m_var 3 (pv 3)) r_nil)))))) a_nil))) a_nil))))))
      (s_one (s_ret (m_ct call_tuple_of pr_tuple (by rfl) W.z_tuple (by rfl) (a_cons (m_frz 4 (pv 4)) a_nil)))))))
      (fun _ _ _ _ _ _ us hl => match us, hl with | [_, _, _, _], _ => rfl)
theorem ok__law_case (W : Wdk66 K mg) (C__law_hall : Fnc P w K mg base (clk66 K) "_law_hall" 1 [] Φ__law_hall) (C__law_number : Fnc P w K mg base (clk66 K) "_law_number" 3 [] Φ__law_number) (C__law_pick : Fnc P w K mg base (clk66 K) "_law_pick" 2 [] Φ__law_pick) (C__law_rows : Fnc P w K mg base (clk66 K) "_law_rows" 3 [] Φ__law_rows) (C__law_take : Fnc P w K mg base (clk66 K) "_law_take" 1 [] Φ__law_take) (C__law_visits : Fnc P w K mg base (clk66 K) "_law_visits" 4 [] Φ__law_visits) : Fnc P w K mg base (clk66 K) "_law_case" 5 [] Φ__law_case :=
  fnc_mk (k := 4) W.d__law_case scs__law_case W.g__law_case (fun cdv A outer s H E hr =>
      (s_seq (s_set (i := 1) scs__law_case.nd rfl (by first | exact Or.inl rfl | exact Or.inr rfl) (oo (vv (m_callF C__law_take (hr.mono (by decide)) (by rfl) (r_mut 0 (pv 0) (r_cons m_int r_nil))))))
      (s_seq (s_if (mT_cmp op_lt pr_cmp (m_var 1 (pv 1)) m_int) (s_seq (s_set (i := 2) scs__law_case.nd rfl (by first | exact Or.inl rfl | exact Or.inr rfl) (oo (vv (m_op op_addA pr_add m_int (vv (m_callF C__law_take (hr.mono (by decide)) (by rfl) (r_mut 0 (pv 0) (r_cons m_int r_nil))))))))
      (s_seq (s_asg (vv (m_callF C__law_hall (hr.mono (by decide)) (by rfl) (r_cons (m_var 2 (pv 2)) r_nil))) (g_tup rfl (gs_cons (g_name (i := 3) scs__law_case.nd rfl (by first | exact Or.inl rfl | exact Or.inr rfl)) (gs_cons (g_name (i := 4) scs__law_case.nd rfl (by first | exact Or.inl rfl | exact Or.inr rfl)) (gs_cons (g_name (i := 5) scs__law_case.nd rfl (by first | exact Or.inl rfl | exact Or.inr rfl)) gs_nil))) (gC_len (gC_len (gC_len gE_len)))))
      (s_seq (s_if (mT_cmp op_gt pr_cmp (m_var 1 (pv 1)) m_int) (s_seq (s_par (i := 6) (j := 7) rfl scs__law_case.nd rfl rfl rfl rfl (o_cons (oo (vv (m_callF C__law_take (hr.mono (by decide)) (by rfl) (r_mut 0 (pv 0) (r_cons (vv (m_op op_addA pr_add (m_var 2 (pv 2)) m_int)) r_nil))))) (o_cons (oo (vv (m_callF C__law_take (hr.mono (by decide)) (by rfl) (r_mut 0 (pv 0) (r_cons m_int r_nil))))) o_nil)) (by rfl))
      (s_seq (s_set (i := 8) scs__law_case.nd rfl (by first | exact Or.inl rfl | exact Or.inr rfl) (oo (vv (m_callF C__law_pick (hr.mono (by decide)) (by rfl) (r_mut 0 (pv 0) (r_cons (vv (m_lst (a_cons m_non (a_cons (m_var 6 (pv 6)) (a_cons m_int a_nil))))) r_nil))))))
      (s_one (s_set (i := 3) scs__law_case.nd rfl (by first | exact Or.inl rfl | exact Or.inr rfl) (oo (vv (m_op op_addA pr_add (vv (m_op op_addA pr_add (vv (m_sl sl_all' pr_sl (m_var 3 (pv 3)) p_none (p_some (m_var 6 (pv 6))))) (vv (m_tup (a_cons (vv (m_op op_addA pr_add (vv (m_op op_addA pr_add (vv (m_sl sl_all' pr_sl (vv (m_ix ix_A pr_ix (m_var 3 (pv 3)) (m_var 6 (pv 6)))) p_none (p_some (m_var 7 (pv 7))))) (vv (m_tup (a_cons (m_var 8 (pv 8)) a_nil))))) (vv (m_sl sl_all' pr_sl (vv (m_ix ix_A pr_ix (m_var 3 (pv 3)) (m_var 6 (pv 6)))) (p_some (vv (m_op op_addA pr_add (m_var 7 (pv 7)) m_int))) p_none)))) a_nil))))) (vv (m_sl sl_all' pr_sl (m_var 3 (pv 3)) (p_some (vv (m_op op_addA pr_add (m_var 6 (pv 6)) m_int))) p_none)))))))))
      s_nil)
      (s_seq (s_if (mT_cmp op_gt pr_cmp (m_var 1 (pv 1)) m_int) (s_one (s_set (i := 4) scs__law_case.nd rfl (by first | exact Or.inl rfl | exact Or.inr rfl) (oo (vv (m_tup (a_cons (vv (m_op op_addA pr_add (vv (m_ix ix_A pr_ix (m_var 4 (pv 4)) m_int)) (vv (m_callF C__law_take (hr.mono (by decide)) (by rfl) (r_mut 0 (pv 0) (r_cons m_int r_nil)))))) (a_cons (vv (m_cb (call_maxA rfl) pr_max (by rfl) W.z_max (by rfl) (a_cons (vv (m_lst (a_cons m_int (a_cons (vv (m_op op_addA pr_add (vv (m_op op_sub pr_sub (vv (m_ix ix_A pr_ix (m_var 4 (pv 4)) m_int)) m_int)) (vv (m_callF C__law_take (hr.mono (by decide)) (by rfl) (r_mut 0 (pv 0) (r_cons m_int r_nil)))))) a_nil)))) a_nil))) a_nil)))))))
      s_nil)
      (s_one (s_ret (m_tup (a_cons (m_var 3 (pv 3)) (a_cons (m_var 4 (pv 4)) (a_cons (m_var 5 (pv 5)) a_nil))))))))))
      s_nil)
      (s_seq (s_par3 (i := 9) (j := 10) (l := 11) rfl scs__law_case.nd rfl rfl rfl rfl rfl rfl (o_cons (oo (vv (m_op op_addA pr_add m_int (vv (m_callF C__law_take (hr.mono (by decide)) (by rfl) (r_mut 0 (pv 0) (r_cons m_int r_nil))))))) (o_cons (oo (vv (m_op op_addA pr_add m_int (vv (m_callF C__law_take (hr.mono (by decide)) (by rfl) (r_mut 0 (pv 0) (r_cons m_int r_nil))))))) (o_cons (oo (vv (m_callF C__law_take (hr.mono (by decide)) (by rfl) (r_mut 0 (pv 0) (r_cons m_int r_nil))))) o_nil))) (by rfl))
      (s_seq (s_par (i := 3) (j := 5) rfl scs__law_case.nd rfl rfl rfl rfl (o_cons (oo (vv (m_callF C__law_rows (hr.mono (by decide)) (by rfl) (r_mut 0 (pv 0) (r_cons (m_var 9 (pv 9)) (r_cons (m_var 10 (pv 10)) r_nil)))))) (o_cons (oo (vv (m_callF C__law_visits (hr.mono (by decide)) (by rfl) (r_mut 0 (pv 0) (r_cons (m_var 9 (pv 9)) (r_cons (m_var 11 (pv 11)) (r_cons m_int r_nil))))))) o_nil)) (by rfl))
      (s_one (s_ret (m_tup (a_cons (m_var 3 (pv 3)) (a_cons (vv (m_ct call_tuple_of pr_tuple (by rfl) W.z_tuple (by rfl) (a_cons (vv (m_comp rfl scs__law_case.nd (i_range1 (by rfl) W.z_range (a_cons (m_var 11 (pv 11)) a_nil)) (own := [("at", 12)]) (blk_ok (by kernel_rfl)) (fun _ _ _ _ _ => (g_name (i := 12) scs__law_case.nd rfl (by first | exact Or.inl rfl | exact Or.inr rfl))) (fun _ _ _ _ _ => ts_nil) (fun _ _ _ _ _ => (m_callF C__law_number (hr.mono (by decide)) (by rfl) (r_mut 0 (pv 0) (r_cons m_int r_nil)))))) a_nil))) (a_cons (m_var 5 (pv 5)) a_nil)))))))))))
      (fun _ _ _ _ _ _ us hl => match us, hl with | [_], _ => rfl)
theorem ok__law_crowd_case (W : Wdk66 K mg) (C__law_case : Fnc P w K mg base (clk66 K) "_law_case" 5 [] Φ__law_case) (C__law_pick : Fnc P w K mg base (clk66 K) "_law_pick" 2 [] Φ__law_pick) (C__law_rows : Fnc P w K mg base (clk66 K) "_law_rows" 3 [] Φ__law_rows) (C__law_take : Fnc P w K mg base (clk66 K) "_law_take" 1 [] Φ__law_take) : Fnc P w K mg base (clk66 K) "_law_crowd_case" 6 [] Φ__law_crowd_case :=
  fnc_mk (k := 5) W.d__law_crowd_case scs__law_crowd_case W.g__law_crowd_case (fun cdv A outer s H E hr =>
      (s_seq (s_set (i := 1) scs__law_crowd_case.nd rfl (by first | exact Or.inl rfl | exact Or.inr rfl) (oo (vv (m_callF C__law_take (hr.mono (by decide)) (by rfl) (r_mut 0 (pv 0) (r_cons m_int r_nil))))))
      (s_seq (s_if (mT_cmp (op_eqD hr.units) pr_eq (m_var 1 (pv 1)) m_int) (s_one (s_ret (m_callF C__law_case (hr.mono (by decide)) (by rfl) (r_mut 0 (pv 0) r_nil))))
      s_nil)
      (s_seq (s_par3 (i := 2) (j := 3) (l := 4) rfl scs__law_crowd_case.nd rfl rfl rfl rfl rfl rfl (o_cons (oo (vv (m_op op_addA pr_add m_int (vv (m_callF C__law_take (hr.mono (by decide)) (by rfl) (r_mut 0 (pv 0) (r_cons m_int r_nil))))))) (o_cons (oo (vv (m_op op_addA pr_add m_int (vv (m_callF C__law_take (hr.mono (by decide)) (by rfl) (r_mut 0 (pv 0) (r_cons m_int r_nil))))))) (o_cons (oo (vv (m_op op_addA pr_add m_int (vv (m_callF C__law_take (hr.mono (by decide)) (by rfl) (r_mut 0 (pv 0) (r_cons m_int r_nil))))))) o_nil))) (by rfl))
      (s_seq (s_set (i := 5) scs__law_crowd_case.nd rfl (by first | exact Or.inl rfl | exact Or.inr rfl) (oo (vv (m_callF C__law_rows (hr.mono (by decide)) (by rfl) (r_mut 0 (pv 0) (r_cons (m_var 2 (pv 2)) (r_cons (m_var 3 (pv 3)) r_nil)))))))
      (s_seq (s_set (i := 6) scs__law_crowd_case.nd rfl (by first | exact Or.inl rfl | exact Or.inr rfl) (m_lst a_nil))
      (s_seq (s_for PassesOwn.never rfl (i_range1 (by rfl) W.z_range (a_cons (m_var 2 (pv 2)) a_nil)) (g_name (i := 7) scs__law_crowd_case.nd rfl (by first | exact Or.inl rfl | exact Or.inr rfl)) (s_seq (s_par (i := 8) (j := 9) rfl scs__law_crowd_case.nd rfl rfl rfl rfl (o_cons (m_op op_mulA pr_mul (vv (m_lst (a_cons m_int a_nil))) (m_var 4 (pv 4))) (o_cons (m_op op_mulA pr_mul (vv (m_lst (a_cons m_int a_nil))) (m_var 4 (pv 4))) o_nil)) (by rfl))
      (s_seq (s_store 8 (pv 8) (vv (m_callF C__law_take (hr.mono (by decide)) (by rfl) (r_mut 0 (pv 0) (r_cons (m_var 4 (pv 4)) r_nil)))) (vv (m_callF C__law_take (hr.mono (by decide)) (by rfl) (r_mut 0 (pv 0) (r_cons m_int r_nil)))))
      (s_seq (s_store 9 (pv 9) (vv (m_callF C__law_take (hr.mono (by decide)) (by rfl) (r_mut 0 (pv 0) (r_cons (m_var 4 (pv 4)) r_nil)))) (vv (m_callF C__law_take (hr.mono (by decide)) (by rfl) (r_mut 0 (pv 0) (r_cons m_int r_nil)))))
      (s_one (s_append 6 (pv 6) (m_tup (a_cons (vv (m_ct call_tuple_of pr_tuple (by rfl) W.z_tuple (by rfl) (a_cons (m_frz 8 (pv 8)) a_nil))) (a_cons (vv (m_ct call_tuple_of pr_tuple (by rfl) W.z_tuple (by rfl) (a_cons (m_frz 9 (pv 9)) a_nil))) a_nil)))))))))
      (s_one (s_ret (m_tup (a_cons (m_var 5 (pv 5)) (a_cons (vv (m_ct call_tuple_of pr_tuple (by rfl) W.z_tuple (by rfl) (a_cons (vv (m_comp rfl scs__law_crowd_case.nd (i_range1 (by rfl) W.z_range (a_cons (m_var 4 (pv 4)) a_nil)) (own := [("at", 10)]) (blk_ok (by kernel_rfl)) (fun _ _ _ _ _ => (g_name (i := 10) scs__law_crowd_case.nd rfl (by first | exact Or.inl rfl | exact Or.inr rfl))) (fun _ _ _ _ _ => ts_nil) (fun _ _ _ _ _ => (m_callF C__law_pick (hr.mono (by decide)) (by rfl) (r_mut 0 (pv 0) (r_cons (vv (m_lst (a_cons m_int (a_cons m_int (a_cons m_int (a_cons m_int a_nil)))))) r_nil)))))) a_nil))) (a_cons (vv (m_ct call_tuple_of pr_tuple (by rfl) W.z_tuple (by rfl) (a_cons (m_frz 6 (pv 6)) a_nil))) a_nil)))))))))))))
      (fun _ _ _ _ _ _ us hl => match us, hl with | [_], _ => rfl)
theorem ok_is_tickets (W : Wdk66 K mg) (C_is_between : Fnc P w K mg base (clk66 K) "is_between" 2 [] Φ_is_between) (C_is_row : Fnc P w K mg base (clk66 K) "is_row" 2 [] Φ_is_row) : Fnc P w K mg base (clk66 K) "is_tickets" 3 [] Φ_is_tickets :=
  fnc_mk (k := 2) W.d_is_tickets scs_is_tickets W.g_is_tickets (fun cdv A outer s H E hr =>
      (s_one (s_ret (oo (m_and (vv (m_callF C_is_row (hr.mono (by decide)) (by rfl) (r_cons (m_var 0 (pv 0)) (r_cons (m_var 1 (pv 1)) r_nil)))) (m_one (vv (m_cb (cr_all rfl) pr_all (by rfl) W.z_all (by rfl) (a_cons (vv (m_comp rfl scs_is_tickets.nd (i_seq (m_var 0 (pv 0))) (own := [("many", 2)]) (blk_ok (by kernel_rfl)) (fun _ _ _ _ _ => (g_name (i := 2) scs_is_tickets.nd rfl (by first | exact Or.inl rfl | exact Or.inr rfl))) (fun _ _ _ _ _ => ts_nil) (fun _ _ _ _ _ => (m_callF C_is_between (hr.mono (by decide)) (by rfl) (r_cons (m_var 2 (pv 2)) (r_cons m_int (r_cons (m_gint (by rfl) W.i_MOST_TICKETS) r_nil))))))) a_nil)))))))))
      (fun _ _ _ _ _ _ us hl => match us, hl with | [_, _], _ => rfl)
theorem ok_is_visit (W : Wdk66 K mg) (C_is_row : Fnc P w K mg base (clk66 K) "is_row" 2 [] Φ_is_row) (C_is_tickets : Fnc P w K mg base (clk66 K) "is_tickets" 3 [] Φ_is_tickets) : Fnc P w K mg base (clk66 K) "is_visit" 4 [] Φ_is_visit :=
  fnc_mk (k := 3) W.d_is_visit scs_is_visit W.g_is_visit (fun cdv A outer s H E hr =>
      (s_one (s_ret (oo (m_and (vv (m_callF C_is_row (hr.mono (by decide)) (by rfl) (r_cons (m_var 0 (pv 0)) (r_cons m_int r_nil)))) (m_and (vv (m_callF C_is_tickets (hr.mono (by decide)) (by rfl) (r_cons (vv (m_ix ix_A pr_ix (m_var 0 (pv 0)) m_int)) (r_cons (m_var 1 (pv 1)) r_nil)))) (m_one (vv (m_callF C_is_tickets (hr.mono (by decide)) (by rfl) (r_cons (vv (m_ix ix_A pr_ix (m_var 0 (pv 0)) m_int)) (r_cons (m_var 1 (pv 1)) r_nil)))))))))))
      (fun _ _ _ _ _ _ us hl => match us, hl with | [_, _], _ => rfl)
theorem ok_Doors___init__ (W : Wdk66 K mg) (C_is_between : Fnc P w K mg base (clk66 K) "is_between" 2 [] Φ_is_between) (C_is_sequence : Fnc P w K mg base (clk66 K) "is_sequence" 1 [] Φ_is_sequence) (C_is_visit : Fnc P w K mg base (clk66 K) "is_visit" 4 [] Φ_is_visit) : Ini P w K mg base (clk66 K) "Doors" 1 5 Φ_Doors___init__ :=
  ini_mk (k := 4) W.m_Doors___init__ W.d_Doors___init__ scs_Doors___init__ W.c_Doors (fun cdv A outer s H E hr =>
      (s_seq (s_if (mW_or (mT_not (mT_truth (vv (m_callF C_is_sequence (hr.mono (by decide)) (by rfl) (r_cons (m_var 1 (pv 1)) r_nil))))) (mW_or1 (mT_cmp op_gt pr_cmp (vv (m_cb call_len_seq pr_len (by rfl) W.z_len (by rfl) (a_cons (m_var 1 (pv 1)) a_nil))) (m_gint (by rfl) W.i_MOST_COLOURS)))).pt (s_one s_no)
      s_nil)
      (s_seq (s_for PassesOwn.never rfl (i_enum (by rfl) W.z_enumerate (a_cons (m_var 1 (pv 1)) a_nil)) (g_tup rfl (gs_cons (g_name (i := 3) scs_Doors___init__.nd rfl (by first | exact Or.inl rfl | exact Or.inr rfl)) (gs_cons (g_name (i := 4) scs_Doors___init__.nd rfl (by first | exact Or.inl rfl | exact Or.inr rfl)) gs_nil)) (gC_len (gC_len gE_len))) (s_one (s_if (mT_not (mT_truth (vv (m_callF C_is_between (hr.mono (by decide)) (by rfl) (r_cons (m_var 4 (pv 4)) (r_cons m_int (r_cons (m_gint (by rfl) W.i_MOST_TICKETS) r_nil))))))) (s_one s_no)
      s_nil)))
      (s_seq (s_if (mW_or (mT_not (mT_truth (vv (m_callF C_is_sequence (hr.mono (by decide)) (by rfl) (r_cons (m_var 2 (pv 2)) r_nil))))) (mW_or1 (mT_not (mT_truth (vv (m_callF C_is_between (hr.mono (by decide)) (by rfl) (r_cons (vv (m_cb call_len_seq pr_len (by rfl) W.z_len (by rfl) (a_cons (m_var 2 (pv 2)) a_nil))) (r_cons m_int (r_cons (m_gint (by rfl) W.i_MOST_KINDS) r_nil))))))))).pt (s_one s_no)
      s_nil)
      (s_seq (s_for PassesOwn.never rfl (i_enum (by rfl) W.z_enumerate (a_cons (m_var 2 (pv 2)) a_nil)) (g_tup rfl (gs_cons (g_name (i := 3) scs_Doors___init__.nd rfl (by first | exact Or.inl rfl | exact Or.inr rfl)) (gs_cons (g_name (i := 5) scs_Doors___init__.nd rfl (by first | exact Or.inl rfl | exact Or.inr rfl)) gs_nil)) (gC_len (gC_len gE_len))) (s_one (s_if (mT_not (mT_truth (vv (m_callF C_is_visit (hr.mono (by decide)) (by rfl) (r_cons (m_var 5 (pv 5)) (r_cons (vv (m_cb call_len_seq pr_len (by rfl) W.z_len (by rfl) (a_cons (m_var 1 (pv 1)) a_nil))) r_nil)))))) (s_one s_no)
      s_nil)))
      (s_seq (s_fld (cs := [1]) 0 W.f_purse (pv 0) (vv (m_ct call_tuple_of pr_tuple (by rfl) W.z_tuple (by rfl) (a_cons (m_var 1 (pv 1)) a_nil))))
      (s_one (s_fld (cs := [1]) 0 W.f_visits (pv 0) (vv (m_ct call_tuple_of pr_tuple (by rfl) W.z_tuple (by rfl) (a_cons (vv (m_comp rfl scs_Doors___init__.nd (i_seq (m_var 2 (pv 2))) (own := [("fee", 6), ("gain", 7)]) (blk_ok (by kernel_rfl)) (fun _ _ _ _ _ => (g_tupL rfl (gs_cons (g_name (i := 6) scs_Doors___init__.nd rfl (by first | exact Or.inl rfl | exact Or.inr rfl)) (gs_cons (g_name (i := 7) scs_Doors___init__.nd rfl (by first | exact Or.inl rfl | exact Or.inr rfl)) gs_nil)) (gC_len (gC_len gE_len)))) (fun _ _ _ _ _ => ts_nil) (fun _ _ _ _ _ => (m_tup (a_cons (vv (m_ct call_tuple_of pr_tuple (by rfl) W.z_tuple (by rfl) (a_cons (m_var 6 (pv 6)) a_nil))) (a_cons (vv (m_ct call_tuple_of pr_tuple (by rfl) W.z_tuple (by rfl) (a_cons (m_var 7 (pv 7)) a_nil))) a_nil)))))) a_nil)))))))))))
      (fun _ _ _ _ _ _ us hl => match us, hl with | [_, _, _], _ => rfl)
theorem ok__law_doors (W : Wdk66 K mg) (C_Doors___init__ : Ini P w K mg base (clk66 K) "Doors" 1 5 Φ_Doors___init__) (C__law_loose : Fnc P w K mg base (clk66 K) "_law_loose" 8 [] (Φ__law_loose fuel__law_loose)) : Fnc P w K mg base (clk66 K) "_law_doors" 9 [] Φ__law_doors :=
  fnc_mk (k := 8) W.d__law_doors scs__law_doors W.g__law_doors (fun cdv A outer s H E hr =>
      (s_one (s_ret (m_makeF C_Doors___init__ (hr.mono (by decide)) (by rfl) (a_cons (vv (m_callF C__law_loose (hr.mono (by decide)) (by rfl) (r_mut 0 (pv 0) (r_cons (m_var 1 (pv 1)) r_nil)))) (a_cons (vv (m_callF C__law_loose (hr.mono (by decide)) (by rfl) (r_mut 0 (pv 0) (r_cons (m_var 2 (pv 2)) r_nil)))) a_nil))))))
      (fun _ _ _ _ _ _ us hl => match us, hl with | [_, _, _], _ => rfl)
theorem ok__law_pool_come (W : Wdk66 K mg) : Fnc P w K mg base (clk66 K) "_law_pool_come" 1 [] Φ__law_pool_come :=
  fnc_mk (k := 0) W.d__law_pool_come scs__law_pool_come W.g__law_pool_come (fun cdv A outer s H E hr =>
      (s_one (s_ret (m_tup (a_cons (vv (m_op op_addA pr_add (vv (m_tup (a_cons (vv (m_op op_addA pr_add (vv (m_ix ix_A pr_ix (m_var 0 (pv 0)) m_int)) (m_var 3 (pv 3)))) a_nil))) (vv (m_ct call_tuple_of pr_tuple (by rfl) W.z_tuple (by rfl) (a_cons (vv (m_sl sl_all' pr_sl (m_var 0 (pv 0)) (p_some m_int) p_none)) a_nil))))) (a_cons (vv (m_ct call_tuple_of pr_tuple (by rfl) W.z_tuple (by rfl) (a_cons (vv (m_comp rfl scs__law_pool_come.nd (i_range1 (by rfl) W.z_range (a_cons (vv (m_cb call_len_seq pr_len (by rfl) W.z_len (by rfl) (a_cons (m_var 1 (pv 1)) a_nil))) a_nil)) (own := [("at", 4)]) (blk_ok (by kernel_rfl)) (fun _ _ _ _ _ => (g_name (i := 4) scs__law_pool_come.nd rfl (by first | exact Or.inl rfl | exact Or.inr rfl))) (fun _ _ _ _ _ => ts_nil) (fun _ _ _ _ _ => (m_op op_addA pr_add (vv (m_ix ix_A pr_ix (m_var 1 (pv 1)) (m_var 4 (pv 4)))) (vv (m_op op_mulA pr_mul (vv (m_ix ix_A pr_ix (m_var 2 (pv 2)) (m_var 4 (pv 4)))) (m_var 3 (pv 3)))))))) a_nil))) a_nil))))))
      (fun _ _ _ _ _ _ us hl => match us, hl with | [_, _, _, _], _ => rfl)
theorem ok__law_pool_move (W : Wdk66 K mg) : Fnc P w K mg base (clk66 K) "_law_pool_move" 1 [] Φ__law_pool_move :=
  fnc_mk (k := 0) W.d__law_pool_move scs__law_pool_move W.g__law_pool_move (fun cdv A outer s H E hr =>
      (s_seq (s_asg (vv (m_ix ix_A pr_ix (m_var 1 (pv 1)) (m_var 5 (pv 5)))) (g_tup rfl (gs_cons (g_name (i := 7) scs__law_pool_move.nd rfl (by first | exact Or.inl rfl | exact Or.inr rfl)) (gs_cons (g_name (i := 8) scs__law_pool_move.nd rfl (by first | exact Or.inl rfl | exact Or.inr rfl)) gs_nil)) (gC_len (gC_len gE_len))))
      (s_seq (s_set (i := 9) scs__law_pool_move.nd rfl (by first | exact Or.inl rfl | exact Or.inr rfl) (oo (vv (m_comp rfl scs__law_pool_move.nd (i_range1 (by rfl) W.z_range (a_cons (vv (m_cb call_len_seq pr_len (by rfl) W.z_len (by rfl) (a_cons (m_var 3 (pv 3)) a_nil))) a_nil)) (own := [("at", 11)]) (blk_ok (by kernel_rfl)) (fun _ _ _ _ _ => (g_name (i := 11) scs__law_pool_move.nd rfl (by first | exact Or.inl rfl | exact Or.inr rfl))) (fun _ _ _ _ _ => ts_nil) (fun _ _ _ _ _ => (m_cb (call_maxA rfl) pr_max (by rfl) W.z_max (by rfl) (a_cons (vv (m_lst (a_cons m_int (a_cons (vv (m_op op_sub pr_sub (vv (m_ix ix_A pr_ix (m_var 7 (pv 7)) (m_var 11 (pv 11)))) (vv (m_ix ix_A pr_ix (m_var 8 (pv 8)) (m_var 11 (pv 11)))))) a_nil)))) a_nil)))))))
      (s_seq (s_if (mW_or (mT_cmp op_isN pr_isN (vv (m_ix ix_A pr_ix (vv (m_ix ix_A pr_ix (m_var 0 (pv 0)) (m_var 4 (pv 4)))) (m_var 5 (pv 5)))) m_non) (mW_or1 (mT_cmp op_lt pr_cmp (vv (m_ix ix_A pr_ix (m_var 2 (pv 2)) (m_var 4 (pv 4)))) (m_var 6 (pv 6))))).pt (s_one (s_ret (oo m_non)))
      s_nil)
      (s_seq (s_if (mT_cmp (op_neD hr.units) pr_ne (vv (m_comp rfl scs__law_pool_move.nd (i_range1 (by rfl) W.z_range (a_cons (vv (m_cb call_len_seq pr_len (by rfl) W.z_len (by rfl) (a_cons (m_var 3 (pv 3)) a_nil))) a_nil)) (own := [("at", 11)]) (blk_ok (by kernel_rfl)) (fun _ _ _ _ _ => (g_name (i := 11) scs__law_pool_move.nd rfl (by first | exact Or.inl rfl | exact Or.inr rfl))) (fun _ _ _ _ _ => ts_one (mT_cmp op_lt pr_cmp (vv (m_ix ix_A pr_ix (m_var 3 (pv 3)) (m_var 11 (pv 11)))) (vv (m_op op_addA pr_add (vv (m_ix ix_A pr_ix (m_var 7 (pv 7)) (m_var 11 (pv 11)))) (vv (m_op op_mulA pr_mul (vv (m_ix ix_A pr_ix (m_var 9 (pv 9)) (m_var 11 (pv 11)))) (vv (m_op op_sub pr_sub (m_var 6 (pv 6)) m_int)))))))) (fun _ _ _ _ _ => (oo m_int)))) (vv (m_lst a_nil))) (s_one (s_ret (oo m_non)))
      s_nil)
      (s_seq (s_set (i := 10) scs__law_pool_move.nd rfl (by first | exact Or.inl rfl | exact Or.inr rfl) (m_ct call_list_of pr_list (by rfl) W.z_list (by rfl) (a_cons (m_var 2 (pv 2)) a_nil)))
      (s_seq (s_augI 10 (pv 10) (m_var 4 (pv 4)) ip_sub (m_var 6 (pv 6)))
      (s_seq (s_augI 10 (pv 10) (vv (m_ix ix_A pr_ix (vv (m_ix ix_A pr_ix (m_var 0 (pv 0)) (m_var 4 (pv 4)))) (m_var 5 (pv 5)))) ip_add (m_var 6 (pv 6)))
      (s_one (s_ret (m_tup (a_cons (vv (m_ct call_tuple_of pr_tuple (by rfl) W.z_tuple (by rfl) (a_cons (m_frz 10 (pv 10)) a_nil))) (a_cons (vv (m_ct call_tuple_of pr_tuple (by rfl) W.z_tuple (by rfl) (a_cons (vv (m_comp rfl scs__law_pool_move.nd (i_range1 (by rfl) W.z_range (a_cons (vv (m_cb call_len_seq pr_len (by rfl) W.z_len (by rfl) (a_cons (m_var 3 (pv 3)) a_nil))) a_nil)) (own := [("at", 11)]) (blk_ok (by kernel_rfl)) (fun _ _ _ _ _ => (g_name (i := 11) scs__law_pool_move.nd rfl (by first | exact Or.inl rfl | exact Or.inr rfl))) (fun _ _ _ _ _ => ts_nil) (fun _ _ _ _ _ => (m_op op_addA pr_add (vv (m_ix ix_A pr_ix (m_var 3 (pv 3)) (m_var 11 (pv 11)))) (vv (m_op op_mulA pr_mul (vv (m_op op_sub pr_sub (vv (m_ix ix_A pr_ix (m_var 8 (pv 8)) (m_var 11 (pv 11)))) (vv (m_ix ix_A pr_ix (m_var 7 (pv 7)) (m_var 11 (pv 11)))))) (m_var 6 (pv 6)))))))) a_nil))) a_nil)))))))))))))
      (fun _ _ _ _ _ _ us hl => match us, hl with | [_, _, _, _, _, _, _], _ => rfl)
theorem ok__law_drawn_plan (W : Wdk66 K mg) (C__law_pool_come : Fnc P w K mg base (clk66 K) "_law_pool_come" 1 [] Φ__law_pool_come) (C__law_pool_move : Fnc P w K mg base (clk66 K) "_law_pool_move" 1 [] Φ__law_pool_move) (C__law_take : Fnc P w K mg base (clk66 K) "_law_take" 1 [] Φ__law_take) : Fnc P w K mg base (clk66 K) "_law_drawn_plan" 2 [] Φ__law_drawn_plan :=
  fnc_mk (k := 1) W.d__law_drawn_plan scs__law_drawn_plan W.g__law_drawn_plan (fun cdv A outer s H E hr =>
      (s_seq (s_par3 (i := 6) (j := 7) (l := 8) rfl scs__law_drawn_plan.nd rfl rfl rfl rfl rfl rfl (o_cons (m_lst a_nil) (o_cons (oo (vv (m_op op_mulA pr_mul (vv (m_tup (a_cons m_int a_nil))) (vv (m_cb call_len_seq pr_len (by rfl) W.z_len (by rfl) (a_cons (m_var 1 (pv 1)) a_nil)))))) (o_cons (oo (vv (m_op op_mulA pr_mul (vv (m_tup (a_cons m_int a_nil))) (vv (m_cb call_len_seq pr_len (by rfl) W.z_len (by rfl) (a_cons (m_var 2 (pv 2)) a_nil)))))) o_nil))) (by rfl))
      (s_seq (s_for PassesOwn.never rfl (i_range1 (by rfl) W.z_range (a_cons (m_var 4 (pv 4)) a_nil)) (g_name (i := 9) scs__law_drawn_plan.nd rfl (by first | exact Or.inl rfl | exact Or.inr rfl)) (s_seq (s_par3 (i := 10) (j := 11) (l := 12) rfl scs__law_drawn_plan.nd rfl rfl rfl rfl rfl rfl (o_cons (oo (vv (m_callF C__law_take (hr.mono (by decide)) (by rfl) (r_mut 0 (pv 0) (r_cons (vv (m_cb call_len_seq pr_len (by rfl) W.z_len (by rfl) (a_cons (m_var 1 (pv 1)) a_nil))) r_nil))))) (o_cons (oo (vv (m_callF C__law_take (hr.mono (by decide)) (by rfl) (r_mut 0 (pv 0) (r_cons (vv (m_cb call_len_seq pr_len (by rfl) W.z_len (by rfl) (a_cons (m_var 3 (pv 3)) a_nil))) r_nil))))) (o_cons (oo (vv (m_op op_addA pr_add m_int (vv (m_callF C__law_take (hr.mono (by decide)) (by rfl) (r_mut 0 (pv 0) (r_cons (m_var 5 (pv 5)) r_nil))))))) o_nil))) (by rfl))
      (s_seq (s_set (i := 13) scs__law_drawn_plan.nd rfl (by first | exact Or.inl rfl | exact Or.inr rfl) (oo (m_if (mT_cmp op_gt pr_cmp (m_var 9 (pv 9)) m_int) (vv (m_callF C__law_pool_move (hr.mono (by decide)) (by rfl) (r_cons (m_var 1 (pv 1)) (r_cons (m_var 3 (pv 3)) (r_cons (m_var 7 (pv 7)) (r_cons (m_var 8 (pv 8)) (r_cons (m_var 10 (pv 10)) (r_cons (m_var 11 (pv 11)) (r_cons (m_var 12 (pv 12)) r_nil))))))))) m_non)))
      (s_seq (s_if (mT_cmp op_isN pr_isN (m_var 13 (pv 13)) m_non) (s_seq (s_set (i := 13) scs__law_drawn_plan.nd rfl (by first | exact Or.inl rfl | exact Or.inr rfl) (oo (m_if (mW_and (mT_cmp op_gt pr_cmp (m_var 9 (pv 9)) m_int) (mW_and1 (mT_cmp op_gt pr_cmp (vv (m_ix ix_A pr_ix (m_var 7 (pv 7)) (m_var 10 (pv 10)))) m_int))).pt (vv (m_callF C__law_pool_move (hr.mono (by decide)) (by rfl) (r_cons (m_var 1 (pv 1)) (r_cons (m_var 3 (pv 3)) (r_cons (m_var 7 (pv 7)) (r_cons (m_var 8 (pv 8)) (r_cons (m_var 10 (pv 10)) (r_cons (m_var 11 (pv 11)) (r_cons m_int r_nil))))))))) m_non)))
      (s_one (s_set (i := 12) scs__law_drawn_plan.nd rfl (by first | exact Or.inl rfl | exact Or.inr rfl) (oo (m_if (mT_cmp op_isN pr_isN (m_var 13 (pv 13)) m_non) (m_var 12 (pv 12)) m_int)))))
      s_nil)
      (s_one (s_if (mT_cmp op_isN pr_isN (m_var 13 (pv 13)) m_non) (s_seq (s_append 6 (pv 6) (m_tup (a_cons m_str (a_cons (m_var 12 (pv 12)) a_nil))))
      (s_one (s_asg (vv (m_callF C__law_pool_come (hr.mono (by decide)) (by rfl) (r_cons (m_var 7 (pv 7)) (r_cons (m_var 8 (pv 8)) (r_cons (m_var 2 (pv 2)) (r_cons (m_var 12 (pv 12)) r_nil)))))) (g_tup rfl (gs_cons (g_name (i := 7) scs__law_drawn_plan.nd rfl (by first | exact Or.inl rfl | exact Or.inr rfl)) (gs_cons (g_name (i := 8) scs__law_drawn_plan.nd rfl (by first | exact Or.inl rfl | exact Or.inr rfl)) gs_nil)) (gC_len (gC_len gE_len))))))
      (s_seq (s_append 6 (pv 6) (m_tup (a_cons m_str (a_cons (m_var 10 (pv 10)) (a_cons (m_var 11 (pv 11)) (a_cons (m_var 12 (pv 12)) a_nil))))))
      (s_one (s_asg (m_var 13 (pv 13)) (g_tup rfl (gs_cons (g_name (i := 7) scs__law_drawn_plan.nd rfl (by first | exact Or.inl rfl | exact Or.inr rfl)) (gs_cons (g_name (i := 8) scs__law_drawn_plan.nd rfl (by first | exact Or.inl rfl | exact Or.inr rfl)) gs_nil)) (gC_len (gC_len gE_len))))))))))))
      (s_one (s_ret (m_ct call_tuple_of pr_tuple (by rfl) W.z_tuple (by rfl) (a_cons (m_frz 6 (pv 6)) a_nil)))))))
      (fun _ _ _ _ _ _ us hl => match us, hl with | [_, _, _, _, _, _], _ => rfl)
theorem ok__law_is_book (W : Wdk66 K mg) (C__law_same : Fnc P w K mg base (clk66 K) "_law_same" 8 [] (Φ__law_same fuel__law_same)) : Fnc P w K mg base (clk66 K) "_law_is_book" 9 [] Φ__law_is_book :=
  fnc_mk (k := 8) W.d__law_is_book scs__law_is_book W.g__law_is_book (fun cdv A outer s H E hr =>
      (s_one (s_ret (oo (m_and (vv (m_callF C__law_same (hr.mono (by decide)) (by rfl) (r_cons (vv (m_fld (cs := [0]) W.f_kinds (m_var 0 (pv 0)))) (r_cons (vv (m_cb call_len_seq pr_len (by rfl) W.z_len (by rfl) (a_cons (vv (m_ix ix_A pr_ix (m_var 1 (pv 1)) m_int)) a_nil))) r_nil)))) (m_one (vv (m_callF C__law_same (hr.mono (by decide)) (by rfl) (r_cons (vv (m_fld (cs := [0]) W.f_rows (m_var 0 (pv 0)))) (r_cons (m_var 1 (pv 1)) r_nil))))))))))
      (fun _ _ _ _ _ _ us hl => match us, hl with | [_, _], _ => rfl)
theorem ok__law_written (W : Wdk66 K mg) : Fnc P w K mg base (clk66 K) "_law_written" 1 [] Φ__law_written :=
  fnc_mk (k := 0) W.d__law_written scs__law_written W.g__law_written (fun cdv A outer s H E hr =>
      (s_seq (s_asg (vv (m_tup (a_cons (vv (m_lst a_nil)) (a_cons (vv (m_lst a_nil)) a_nil)))) (g_tup rfl (gs_cons (g_name (i := 2) scs__law_written.nd rfl (by first | exact Or.inl rfl | exact Or.inr rfl)) (gs_cons (g_name (i := 3) scs__law_written.nd rfl (by first | exact Or.inl rfl | exact Or.inr rfl)) gs_nil)) (gC_len (gC_len gE_len))))
      (s_seq (s_for PassesOwn.never rfl (i_seq (m_var 1 (pv 1))) (g_name (i := 4) scs__law_written.nd rfl (by first | exact Or.inl rfl | exact Or.inr rfl)) (s_one (s_if (mT_cmp (op_eqD hr.units) pr_eq (vv (m_ix ix_A pr_ix (m_var 4 (pv 4)) m_int)) m_str) (s_seq (s_set (i := 2) scs__law_written.nd rfl (by first | exact Or.inl rfl | exact Or.inr rfl) (m_op op_addA pr_add (m_frz 2 (pv 2)) (vv (m_op op_mulA pr_mul (vv (m_lst (a_cons (vv (m_tup (a_cons m_str a_nil))) a_nil))) (vv (m_ix ix_A pr_ix (m_var 4 (pv 4)) m_int))))))
      (s_one (s_set (i := 3) scs__law_written.nd rfl (by first | exact Or.inl rfl | exact Or.inr rfl) (m_op op_addA pr_add (m_frz 3 (pv 3)) (vv (m_op op_mulA pr_mul (vv (m_lst (a_cons m_int a_nil))) (vv (m_ix ix_A pr_ix (m_var 4 (pv 4)) m_int))))))))
      (s_seq (s_set (i := 5) scs__law_written.nd rfl (by first | exact Or.inl rfl | exact Or.inr rfl) (oo (vv (m_sl sl_all' pr_sl (vv (m_comp rfl scs__law_written.nd (i_range1 (by rfl) W.z_range (a_cons (m_peek (vv (m_cb call_len_seq pr_len (by rfl) W.z_len (by rfl) (a_cons (m_var 3 (pv 3)) a_nil)))) a_nil)) (own := [("guest", 6)]) (blk_ok (by kernel_rfl)) (fun _ _ _ _ _ => (g_name (i := 6) scs__law_written.nd rfl (by first | exact Or.inl rfl | exact Or.inr rfl))) (fun _ _ _ _ _ => ts_one (mT_cmp (op_eqD hr.units) pr_eq (m_ixO 3 (pv 3) (m_var 6 (pv 6))) (vv (m_ix ix_A pr_ix (m_var 4 (pv 4)) m_int)))) (fun _ _ _ _ _ => (oo (m_var 6 (pv 6)))))) p_none (p_some (vv (m_ix ix_A pr_ix (m_var 4 (pv 4)) m_int)))))))
      (s_one (s_for PassesOwn.never rfl (i_seq (m_var 5 (pv 5))) (g_name (i := 6) scs__law_written.nd rfl (by first | exact Or.inl rfl | exact Or.inr rfl)) (s_seq (s_append 2 (pv 2) (m_tup (a_cons m_str (a_cons (m_var 6 (pv 6)) (a_cons (vv (m_ix ix_A pr_ix (m_var 4 (pv 4)) m_int)) a_nil)))))
      (s_one (s_store 3 (pv 3) (m_var 6 (pv 6)) (vv (m_ix ix_A pr_ix (vv (m_ix ix_A pr_ix (m_var 0 (pv 0)) (vv (m_ix ix_A pr_ix (m_var 4 (pv 4)) m_int)))) (vv (m_ix ix_A pr_ix (m_var 4 (pv 4)) m_int)))))))))))))
      (s_one (s_ret (oo (m_frz 2 (pv 2))))))))
      (fun _ _ _ _ _ _ us hl => match us, hl with | [_, _], _ => rfl)
theorem ok_need_book (W : Wdk66 K mg) : Fnc P w K mg base (clk66 K) "need_book" 1 [.int (-1)] Φ_need_book :=
  fncD_mk (k := 0) 1 0 W.d_need_book scs_need_book W.g_need_book (fun cdv A outer s H E hr =>
      (s_one (s_if (mT_not (mT_truth (vv (m_isi (cv := .ref (clk66 K 0)) (ClsV.own _) (isa_O W.k_Book) (by rfl) W.z_isinstance (m_var 0 (pv 0)) (pe_glob (by rfl) W.c_Book rfl))))) (s_one s_no)
      s_nil)))
    (List.cons_ne_nil _ _) rfl (fun _ _ _ _ _ _ _ us its hl hi => match us, its, hl, hi with | [_], [_], _, _ => ⟨_, rfl, rfl⟩) (fun _ => (.cons (.int _) .nil))
theorem ok_need_doors (W : Wdk66 K mg) : Fnc P w K mg base (clk66 K) "need_doors" 1 [] Φ_need_doors :=
  fncD_mk (k := 0) 3 2 W.d_need_doors scs_need_doors W.g_need_doors (fun cdv A outer s H E hr =>
      (s_one (s_if (mW_or (mT_not (mT_truth (vv (m_isi (cv := .ref (clk66 K 1)) (ClsV.own _) (isa_O W.k_Doors) (by rfl) W.z_isinstance (m_var 0 (pv 0)) (pe_glob (by rfl) W.c_Doors rfl))))) (mW_or1 (mW_and (mT_cmp op_notN pr_notN (m_var 2 (pv 2)) m_non) (mW_and1 (mT_cmp (op_neD hr.units) pr_ne (vv (m_cb call_len_seq pr_len (by rfl) W.z_len (by rfl) (a_cons (vv (m_fld (cs := [1]) W.f_visits (m_var 0 (pv 0)))) a_nil))) (m_var 2 (pv 2))))).pt)).pt (s_one s_no)
      s_nil)))
    (List.cons_ne_nil _ _) rfl (fun _ _ _ _ _ _ _ us its hl hi => match us, its, hl, hi with | [_, _, _], [_, _], _, _ => ⟨_, rfl, rfl⟩) (fun _ => .nil)
theorem ok_is_word (W : Wdk66 K mg) : Fnc P w K mg base (clk66 K) "is_word" 1 [] Φ_is_word :=
  fnc_mk (k := 0) W.d_is_word scs_is_word W.g_is_word (fun cdv A outer s H E hr =>
      (s_one (s_ret (oo (m_and (vv (m_isi (cv := .ty "str") (ClsV.ty "str") isa_B (by rfl) W.z_isinstance (m_var 0 (pv 0)) (pe_bltn (by rfl) W.z_str (by rfl) rfl))) (m_one (vv (m_cmp (op_eqD hr.units) pr_eq (m_var 0 (pv 0)) (m_var 1 (pv 1))))))))))
      (fun _ _ _ _ _ _ us hl => match us, hl with | [_, _], _ => rfl)
theorem ok_is_asking (W : Wdk66 K mg) (C_is_below : Fnc P w K mg base (clk66 K) "is_below" 2 [] Φ_is_below) (C_is_row : Fnc P w K mg base (clk66 K) "is_row" 2 [] Φ_is_row) (C_is_word : Fnc P w K mg base (clk66 K) "is_word" 1 [] Φ_is_word) : Fnc P w K mg base (clk66 K) "is_asking" 3 [] Φ_is_asking :=
  fnc_mk (k := 2) W.d_is_asking scs_is_asking W.g_is_asking (fun cdv A outer s H E hr =>
      (s_seq (s_if (mW_or (mT_not (mT_truth (vv (m_callF C_is_row (hr.mono (by decide)) (by rfl) (r_cons (m_var 1 (pv 1)) (r_cons m_int r_nil)))))) (mW_or1 (mT_not (mT_truth (vv (m_callF C_is_word (hr.mono (by decide)) (by rfl) (r_cons (vv (m_ix ix_A pr_ix (m_var 1 (pv 1)) m_int)) (r_cons m_str r_nil)))))))).pt (s_one (s_ret (oo m_bl)))
      s_nil)
      (s_one (s_ret (oo (m_and (vv (m_callF C_is_below (hr.mono (by decide)) (by rfl) (r_cons (vv (m_ix ix_A pr_ix (m_var 1 (pv 1)) m_int)) (r_cons (m_var 2 (pv 2)) r_nil)))) (m_one (vv (m_callF C_is_below (hr.mono (by decide)) (by rfl) (r_cons (vv (m_ix ix_A pr_ix (m_var 1 (pv 1)) m_int)) (r_cons (vv (m_fld (cs := [0]) W.f_kinds (m_var 0 (pv 0)))) r_nil)))))))))))
      (fun _ _ _ _ _ _ us hl => match us, hl with | [_, _, _], _ => rfl)
theorem ok_is_coming (W : Wdk66 K mg) (C_is_row : Fnc P w K mg base (clk66 K) "is_row" 2 [] Φ_is_row) (C_is_word : Fnc P w K mg base (clk66 K) "is_word" 1 [] Φ_is_word) : Fnc P w K mg base (clk66 K) "is_coming" 3 [] Φ_is_coming :=
  fnc_mk (k := 2) W.d_is_coming scs_is_coming W.g_is_coming (fun cdv A outer s H E hr =>
      (s_one (s_ret (oo (m_and (vv (m_callF C_is_row (hr.mono (by decide)) (by rfl) (r_cons (m_var 0 (pv 0)) (r_cons m_int r_nil)))) (m_one (vv (m_callF C_is_word (hr.mono (by decide)) (by rfl) (r_cons (vv (m_ix ix_A pr_ix (m_var 0 (pv 0)) m_int)) (r_cons m_str r_nil))))))))))
      (fun _ _ _ _ _ _ us hl => match us, hl with | [_], _ => rfl)
theorem ok_need_pool_deeds (W : Wdk66 K mg) (C_is_asking : Fnc P w K mg base (clk66 K) "is_asking" 3 [] Φ_is_asking) (C_is_coming : Fnc P w K mg base (clk66 K) "is_coming" 3 [] Φ_is_coming) (C_is_sequence : Fnc P w K mg base (clk66 K) "is_sequence" 1 [] Φ_is_sequence) : Fnc P w K mg base (clk66 K) "need_pool_deeds" 4 [] Φ_need_pool_deeds :=
  fnc_mk (k := 3) W.d_need_pool_deeds scs_need_pool_deeds W.g_need_pool_deeds (fun cdv A outer s H E hr =>
      (s_seq (s_if (mW_or (mT_not (mT_truth (vv (m_callF C_is_sequence (hr.mono (by decide)) (by rfl) (r_cons (m_var 1 (pv 1)) r_nil))))) (mW_or1 (mT_cmp op_gt pr_cmp (vv (m_cb call_len_seq pr_len (by rfl) W.z_len (by rfl) (a_cons (m_var 1 (pv 1)) a_nil))) (m_gint (by rfl) W.i_MOST_POOL_DEEDS)))).pt (s_one s_no)
      s_nil)
      (s_seq (s_set (i := 2) scs_need_pool_deeds.nd rfl (by first | exact Or.inl rfl | exact Or.inr rfl) (oo m_int))
      (s_one (s_for PassesOwn.never rfl (i_enum (by rfl) W.z_enumerate (a_cons (m_var 1 (pv 1)) a_nil)) (g_tup rfl (gs_cons (g_name (i := 3) scs_need_pool_deeds.nd rfl (by first | exact Or.inl rfl | exact Or.inr rfl)) (gs_cons (g_name (i := 4) scs_need_pool_deeds.nd rfl (by first | exact Or.inl rfl | exact Or.inr rfl)) gs_nil)) (gC_len (gC_len gE_len))) (s_one (s_if (mT_truth (vv (m_callF C_is_coming (hr.mono (by decide)) (by rfl) (r_cons (m_var 4 (pv 4)) r_nil)))) (s_one (s_aug (i := 2) scs_need_pool_deeds.nd rfl (by first | exact Or.inl rfl | exact Or.inr rfl) ip_add m_int))
      (s_one (s_if (mT_not (mT_truth (vv (m_callF C_is_asking (hr.mono (by decide)) (by rfl) (r_cons (m_var 0 (pv 0)) (r_cons (m_var 4 (pv 4)) (r_cons (m_var 2 (pv 2)) r_nil))))))) (s_one s_no)
      s_nil)))))))))
      (fun _ _ _ _ _ _ us hl => match us, hl with | [_, _], _ => rfl)
theorem ok_paid (W : Wdk66 K mg) : Fnc P w K mg base (clk66 K) "paid" 1 [] Φ_paid :=
  fnc_mk (k := 0) W.d_paid scs_paid W.g_paid (fun cdv A outer s H E hr =>
      (s_one (s_ret (m_ct call_tuple_of pr_tuple (by rfl) W.z_tuple (by rfl) (a_cons (vv (m_comp rfl scs_paid.nd (i_seq (vv (m_lz3 (by rfl) W.z_list (by rfl) W.z_zip rfl (a_cons (m_var 0 (pv 0)) (a_cons (vv (m_ix ix_A pr_ix (m_var 1 (pv 1)) m_int)) (a_cons (vv (m_ix ix_A pr_ix (m_var 1 (pv 1)) m_int)) a_nil)))))) (own := [("many", 2), ("fee", 3), ("gain", 4)]) (blk_ok (by kernel_rfl)) (fun _ _ _ _ _ => (g_tup rfl (gs_cons (g_name (i := 2) scs_paid.nd rfl (by first | exact Or.inl rfl | exact Or.inr rfl)) (gs_cons (g_name (i := 3) scs_paid.nd rfl (by first | exact Or.inl rfl | exact Or.inr rfl)) (gs_cons (g_name (i := 4) scs_paid.nd rfl (by first | exact Or.inl rfl | exact Or.inr rfl)) gs_nil))) (gC_len (gC_len (gC_len gE_len))))) (fun _ _ _ _ _ => ts_nil) (fun _ _ _ _ _ => (m_op op_addA pr_add (vv (m_op op_sub pr_sub (m_var 2 (pv 2)) (m_var 3 (pv 3)))) (m_var 4 (pv 4)))))) a_nil)))))
      (fun _ _ _ _ _ _ us hl => match us, hl with | [_, _], _ => rfl)
theorem ok_covers (W : Wdk66 K mg) : Fnc P w K mg base (clk66 K) "covers" 1 [] Φ_covers :=
  fnc_mk (k := 0) W.d_covers scs_covers W.g_covers (fun cdv A outer s H E hr =>
      (s_one (s_ret (m_cb (cr_all rfl) pr_all (by rfl) W.z_all (by rfl) (a_cons (vv (m_comp rfl scs_covers.nd (i_seq (vv (m_lz2 (by rfl) W.z_list (by rfl) W.z_zip rfl (a_cons (m_var 0 (pv 0)) (a_cons (m_var 1 (pv 1)) a_nil))))) (own := [("one", 2), ("more", 3)]) (blk_ok (by kernel_rfl)) (fun _ _ _ _ _ => (g_tup rfl (gs_cons (g_name (i := 2) scs_covers.nd rfl (by first | exact Or.inl rfl | exact Or.inr rfl)) (gs_cons (g_name (i := 3) scs_covers.nd rfl (by first | exact Or.inl rfl | exact Or.inr rfl)) gs_nil)) (gC_len (gC_len gE_len)))) (fun _ _ _ _ _ => ts_nil) (fun _ _ _ _ _ => (m_cmp op_ge pr_cmp (m_var 2 (pv 2)) (m_var 3 (pv 3)))))) a_nil)))))
      (fun _ _ _ _ _ _ us hl => match us, hl with | [_, _], _ => rfl)
theorem ok_pool_answer (W : Wdk66 K mg) (C_covers : Fnc P w K mg base (clk66 K) "covers" 1 [] Φ_covers) : Fnc P w K mg base (clk66 K) "pool_answer" 2 [] Φ_pool_answer :=
  fnc_mk (k := 1) W.d_pool_answer scs_pool_answer W.g_pool_answer (fun cdv A outer s H E hr =>
      (s_seq (s_set (i := 5) scs_pool_answer.nd rfl (by first | exact Or.inl rfl | exact Or.inr rfl) (oo (m_ixO 2 (pv 2) (vv (m_ix ix_A pr_ix (m_var 4 (pv 4)) m_int)))))
      (s_seq (s_if (mT_cmp op_isN pr_isN (m_var 5 (pv 5)) m_non) (s_one (s_ret (oo m_str)))
      s_nil)
      (s_seq (s_if (mT_not (mT_truth (vv (m_callF C_covers (hr.mono (by decide)) (by rfl) (r_cons (m_var 3 (pv 3)) (r_cons (vv (m_ix ix_A pr_ix (vv (m_ix ix_A pr_ix (vv (m_fld (cs := [1]) W.f_visits (m_var 1 (pv 1)))) (vv (m_ix ix_A pr_ix (m_var 4 (pv 4)) m_int)))) m_int)) r_nil)))))) (s_one (s_ret (oo m_str)))
      s_nil)
      (s_one (s_ret (oo (m_if (mT_cmp op_isN pr_isN (vv (m_ix ix_A pr_ix (vv (m_ix ix_A pr_ix (vv (m_fld (cs := [0]) W.f_rows (m_var 0 (pv 0)))) (m_var 5 (pv 5)))) (vv (m_ix ix_A pr_ix (m_var 4 (pv 4)) m_int)))) m_non) m_str m_str))))))))
      (fun _ _ _ _ _ _ us hl => match us, hl with | [_, _, _, _, _], _ => rfl)
theorem ok_poured (W : Wdk66 K mg) : Fnc P w K mg base (clk66 K) "poured" 1 [] Φ_poured :=
  fnc_mk (k := 0) W.d_poured scs_poured W.g_poured (fun cdv A outer s H E hr =>
      (s_one (s_ret (m_ct call_tuple_of pr_tuple (by rfl) W.z_tuple (by rfl) (a_cons (vv (m_comp rfl scs_poured.nd (i_seq (vv (m_lz2 (by rfl) W.z_list (by rfl) W.z_zip rfl (a_cons (m_var 0 (pv 0)) (a_cons (m_var 1 (pv 1)) a_nil))))) (own := [("many", 3), ("more", 4)]) (blk_ok (by kernel_rfl)) (fun _ _ _ _ _ => (g_tup rfl (gs_cons (g_name (i := 3) scs_poured.nd rfl (by first | exact Or.inl rfl | exact Or.inr rfl)) (gs_cons (g_name (i := 4) scs_poured.nd rfl (by first | exact Or.inl rfl | exact Or.inr rfl)) gs_nil)) (gC_len (gC_len gE_len)))) (fun _ _ _ _ _ => ts_nil) (fun _ _ _ _ _ => (m_op op_addA pr_add (m_var 3 (pv 3)) (vv (m_op op_mulA pr_mul (m_var 2 (pv 2)) (m_var 4 (pv 4)))))))) a_nil)))))
      (fun _ _ _ _ _ _ us hl => match us, hl with | [_, _, _], _ => rfl)
theorem ok_pooled (W : Wdk66 K mg) (C_need_book : Fnc P w K mg base (clk66 K) "need_book" 1 [.int (-1)] Φ_need_book) (C_need_doors : Fnc P w K mg base (clk66 K) "need_doors" 1 [] Φ_need_doors) (C_need_pool_deeds : Fnc P w K mg base (clk66 K) "need_pool_deeds" 4 [] Φ_need_pool_deeds) (C_paid : Fnc P w K mg base (clk66 K) "paid" 1 [] Φ_paid) (C_pool_answer : Fnc P w K mg base (clk66 K) "pool_answer" 2 [] Φ_pool_answer) (C_poured : Fnc P w K mg base (clk66 K) "poured" 1 [] Φ_poured) : Fnc P w K mg base (clk66 K) "pooled" 5 [] Φ_pooled :=
  fnc_mk (k := 4) W.d_pooled scs_pooled W.g_pooled (fun cdv A outer s H E hr =>
      (s_seq (s_ex (vv (m_callF C_need_book (hr.mono (by decide)) (by rfl) (r_cons (m_var 0 (pv 0)) r_nil))))
      (s_seq (s_ex (vv (m_callF C_need_doors (hr.mono (by decide)) (by rfl) (r_cons (m_var 1 (pv 1)) (r_cons (vv (m_un un_neg pr_neg m_int)) (r_cons (vv (m_fld (cs := [0]) W.f_kinds (m_var 0 (pv 0)))) r_nil))))))
      (s_seq (s_ex (vv (m_callF C_need_pool_deeds (hr.mono (by decide)) (by rfl) (r_cons (m_var 0 (pv 0)) (r_cons (m_var 2 (pv 2)) r_nil)))))
      (s_seq (s_set (i := 3) scs_pooled.nd rfl (by first | exact Or.inl rfl | exact Or.inr rfl) (m_lst a_nil))
      (s_seq (s_set (i := 4) scs_pooled.nd rfl (by first | exact Or.inl rfl | exact Or.inr rfl) (m_lst a_nil))
      (s_seq (s_set (i := 5) scs_pooled.nd rfl (by first | exact Or.inl rfl | exact Or.inr rfl) (oo (vv (m_op op_mulA pr_mul (vv (m_tup (a_cons m_int a_nil))) (vv (m_cb call_len_seq pr_len (by rfl) W.z_len (by rfl) (a_cons (vv (m_fld (cs := [1]) W.f_purse (m_var 1 (pv 1)))) a_nil)))))))
      (s_seq (s_for PassesOwn.never rfl (i_seq (m_var 2 (pv 2))) (g_name (i := 6) scs_pooled.nd rfl (by first | exact Or.inl rfl | exact Or.inr rfl)) (s_one (s_if (mT_cmp (op_eqD hr.units) pr_eq (vv (m_cb call_len_seq pr_len (by rfl) W.z_len (by rfl) (a_cons (m_var 6 (pv 6)) a_nil))) m_int) (s_seq (s_append 4 (pv 4) (oo m_int))
      (s_seq (s_set (i := 5) scs_pooled.nd rfl (by first | exact Or.inl rfl | exact Or.inr rfl) (oo (vv (m_callF C_poured (hr.mono (by decide)) (by rfl) (r_cons (m_var 5 (pv 5)) (r_cons (vv (m_fld (cs := [1]) W.f_purse (m_var 1 (pv 1)))) (r_cons m_int r_nil)))))))
      (s_one (s_append 3 (pv 3) (oo m_str)))))
      (s_seq (s_append 3 (pv 3) (m_callF C_pool_answer (hr.mono (by decide)) (by rfl) (r_cons (m_var 0 (pv 0)) (r_cons (m_var 1 (pv 1)) (r_mut 4 (pv 4) (r_cons (m_var 5 (pv 5)) (r_cons (m_var 6 (pv 6)) r_nil)))))))
      (s_one (s_if (mT_cmp op_in_seq pr_in (m_ixO 3 (pv 3) (vv (m_un un_neg pr_neg m_int))) (vv (m_tup (a_cons m_str (a_cons m_str a_nil))))) (s_seq (s_set (i := 5) scs_pooled.nd rfl (by first | exact Or.inl rfl | exact Or.inr rfl) (oo (vv (m_callF C_paid (hr.mono (by decide)) (by rfl) (r_cons (m_var 5 (pv 5)) (r_cons (vv (m_ix ix_A pr_ix (vv (m_fld (cs := [1]) W.f_visits (m_var 1 (pv 1)))) (vv (m_ix ix_A pr_ix (m_var 6 (pv 6)) m_int)))) r_nil))))))
      (s_one (s_store 4 (pv 4) (vv (m_ix ix_A pr_ix (m_var 6 (pv 6)) m_int)) (vv (m_ix ix_A pr_ix (vv (m_ix ix_A pr_ix (vv (m_fld (cs := [0]) W.f_rows (m_var 0 (pv 0)))) (m_ixO 4 (pv 4) (vv (m_ix ix_A pr_ix (m_var 6 (pv 6)) m_int))))) (vv (m_ix ix_A pr_ix (m_var 6 (pv 6)) m_int)))))))
      s_nil))))))
      (s_one (s_ret (m_tup (a_cons (vv (m_ct call_tuple_of pr_tuple (by rfl) W.z_tuple (by rfl) (a_cons (m_frz 3 (pv 3)) a_nil))) (a_cons (vv (m_ct call_tuple_of pr_tuple (by rfl) W.z_tuple (by rfl) (a_cons (m_frz 4 (pv 4)) a_nil))) (a_cons (m_var 5 (pv 5)) a_nil))))))))))))))
      (fun _ _ _ _ _ _ us hl => match us, hl with | [_, _, _], _ => rfl)
theorem ok__law_is_written (W : Wdk66 K mg) (C__law_same : Fnc P w K mg base (clk66 K) "_law_same" 8 [] (Φ__law_same fuel__law_same)) (C__law_written : Fnc P w K mg base (clk66 K) "_law_written" 1 [] Φ__law_written) (C_pooled : Fnc P w K mg base (clk66 K) "pooled" 5 [] Φ_pooled) : Fnc P w K mg base (clk66 K) "_law_is_written" 9 [] Φ__law_is_written :=
  fnc_mk (k := 8) W.d__law_is_written scs__law_is_written W.g__law_is_written (fun cdv A outer s H E hr =>
      (s_seq (s_set (i := 5) scs__law_is_written.nd rfl (by first | exact Or.inl rfl | exact Or.inr rfl) (oo (vv (m_callF C_pooled (hr.mono (by decide)) (by rfl) (r_cons (m_var 0 (pv 0)) (r_cons (m_var 1 (pv 1)) (r_cons (vv (m_callF C__law_written (hr.mono (by decide)) (by rfl) (r_cons (m_var 2 (pv 2)) (r_cons (m_var 3 (pv 3)) r_nil)))) r_nil)))))))
      (s_seq (s_if (mW_or (mT_not (mT_truth (vv (m_isi (cv := .ty "tuple") (ClsV.ty "tuple") isa_B (by rfl) W.z_isinstance (m_var 5 (pv 5)) (pe_bltn (by rfl) W.z_tuple (by rfl) rfl))))) (mW_or (mT_cmp (op_neD hr.units) pr_ne (vv (m_cb call_len_seq pr_len (by rfl) W.z_len (by rfl) (a_cons (m_var 5 (pv 5)) a_nil))) m_int) (mW_or1 (mT_cmp (op_neD hr.units) pr_ne (vv (m_comp rfl scs__law_is_written.nd (i_seq (vv (m_ix ix_A pr_ix (m_var 5 (pv 5)) m_int))) (own := [("one", 7)]) (blk_ok (by kernel_rfl)) (fun _ _ _ _ _ => (g_name (i := 7) scs__law_is_written.nd rfl (by first | exact Or.inl rfl | exact Or.inr rfl))) (fun _ _ _ _ _ => ts_one (mW_and (mT_cmp (op_neD hr.units) pr_ne (m_var 7 (pv 7)) m_str) (mW_and1 (mT_cmp (op_neD hr.units) pr_ne (m_var 7 (pv 7)) m_str))).pt) (fun _ _ _ _ _ => (oo (m_var 7 (pv 7)))))) (vv (m_lst a_nil)))))).pt (s_one (s_ret (oo m_bl)))
      s_nil)
      (s_seq (s_set (i := 6) scs__law_is_written.nd rfl (by first | exact Or.inl rfl | exact Or.inr rfl) (oo (vv (m_ct call_tuple_of pr_tuple (by rfl) W.z_tuple (by rfl) (a_cons (vv (m_comp rfl scs__law_is_written.nd (i_range1 (by rfl) W.z_range (a_cons (vv (m_cb call_len_seq pr_len (by rfl) W.z_len (by rfl) (a_cons (m_var 2 (pv 2)) a_nil))) a_nil)) (own := [("at", 8)]) (blk_ok (by kernel_rfl)) (fun _ _ _ _ _ => (g_name (i := 8) scs__law_is_written.nd rfl (by first | exact Or.inl rfl | exact Or.inr rfl))) (fun _ _ _ _ _ => ts_nil) (fun _ _ _ _ _ => (m_cb call_len_seq pr_len (by rfl) W.z_len (by rfl) (a_cons (vv (m_comp rfl scs__law_is_written.nd (i_seq (vv (m_ix ix_A pr_ix (m_var 5 (pv 5)) m_int))) (own := [("state", 9)]) (blk_ok (by kernel_rfl)) (fun _ _ _ _ _ => (g_name (i := 9) scs__law_is_written.nd rfl (by first | exact Or.inl rfl | exact Or.inr rfl))) (fun _ _ _ _ _ => ts_one (mT_cmp (op_eqD hr.units) pr_eq (m_var 9 (pv 9)) (m_var 8 (pv 8)))) (fun _ _ _ _ _ => (oo (m_var 9 (pv 9)))))) a_nil))))) a_nil)))))
      (s_one (s_ret (oo (m_and (vv (m_callF C__law_same (hr.mono (by decide)) (by rfl) (r_cons (vv (m_ix ix_A pr_ix (m_var 5 (pv 5)) m_int)) (r_cons (vv (m_ix ix_A pr_ix (m_var 4 (pv 4)) m_int)) r_nil)))) (m_one (vv (m_cmp (op_eqD hr.units) pr_eq (m_var 6 (pv 6)) (vv (m_ix ix_A pr_ix (m_var 4 (pv 4)) m_int)))))))))))))
      (fun _ _ _ _ _ _ us hl => match us, hl with | [_, _, _, _, _], _ => rfl)
theorem ok__law_plan_end (W : Wdk66 K mg) (C__law_pool_come : Fnc P w K mg base (clk66 K) "_law_pool_come" 1 [] Φ__law_pool_come) (C__law_pool_move : Fnc P w K mg base (clk66 K) "_law_pool_move" 1 [] Φ__law_pool_move) : Fnc P w K mg base (clk66 K) "_law_plan_end" 2 [] Φ__law_plan_end :=
  fnc_mk (k := 1) W.d__law_plan_end scs__law_plan_end W.g__law_plan_end (fun cdv A outer s H E hr =>
      (s_seq (s_par (i := 4) (j := 5) rfl scs__law_plan_end.nd rfl rfl rfl rfl (o_cons (oo (vv (m_op op_mulA pr_mul (vv (m_tup (a_cons m_int a_nil))) (vv (m_cb call_len_seq pr_len (by rfl) W.z_len (by rfl) (a_cons (m_var 0 (pv 0)) a_nil)))))) (o_cons (oo (vv (m_op op_mulA pr_mul (vv (m_tup (a_cons m_int a_nil))) (vv (m_cb call_len_seq pr_len (by rfl) W.z_len (by rfl) (a_cons (m_var 1 (pv 1)) a_nil)))))) o_nil)) (by rfl))
      (s_seq (s_for PassesOwn.never rfl (i_range1 (by rfl) W.z_range (a_cons (vv (m_cb call_len_seq pr_len (by rfl) W.z_len (by rfl) (a_cons (m_var 3 (pv 3)) a_nil))) a_nil)) (g_name (i := 6) scs__law_plan_end.nd rfl (by first | exact Or.inl rfl | exact Or.inr rfl)) (s_seq (s_set (i := 7) scs__law_plan_end.nd rfl (by first | exact Or.inl rfl | exact Or.inr rfl) (oo (vv (m_ix ix_A pr_ix (m_var 3 (pv 3)) (m_var 6 (pv 6))))))
      (s_one (s_if (mT_cmp (op_eqD hr.units) pr_eq (vv (m_ix ix_A pr_ix (m_var 7 (pv 7)) m_int)) m_str) (s_one (s_asg (vv (m_callF C__law_pool_come (hr.mono (by decide)) (by rfl) (r_cons (m_var 4 (pv 4)) (r_cons (m_var 5 (pv 5)) (r_cons (m_var 1 (pv 1)) (r_cons (vv (m_ix ix_A pr_ix (m_var 7 (pv 7)) m_int)) r_nil)))))) (g_tup rfl (gs_cons (g_name (i := 4) scs__law_plan_end.nd rfl (by first | exact Or.inl rfl | exact Or.inr rfl)) (gs_cons (g_name (i := 5) scs__law_plan_end.nd rfl (by first | exact Or.inl rfl | exact Or.inr rfl)) gs_nil)) (gC_len (gC_len gE_len)))))
      (s_seq (s_set (i := 8) scs__law_plan_end.nd rfl (by first | exact Or.inl rfl | exact Or.inr rfl) (oo (vv (m_callF C__law_pool_move (hr.mono (by decide)) (by rfl) (r_cons (m_var 0 (pv 0)) (r_cons (m_var 2 (pv 2)) (r_cons (m_var 4 (pv 4)) (r_cons (m_var 5 (pv 5)) (r_cons (vv (m_ix ix_A pr_ix (m_var 7 (pv 7)) m_int)) (r_cons (vv (m_ix ix_A pr_ix (m_var 7 (pv 7)) m_int)) (r_cons (vv (m_ix ix_A pr_ix (m_var 7 (pv 7)) m_int)) r_nil)))))))))))
      (s_seq (s_if (mT_cmp op_isN pr_isN (m_var 8 (pv 8)) m_non) (s_one (s_ret (m_tup (a_cons m_str (a_cons (m_var 6 (pv 6)) a_nil)))))
      s_nil)
      (s_one (s_asg (m_var 8 (pv 8)) (g_tup rfl (gs_cons (g_name (i := 4) scs__law_plan_end.nd rfl (by first | exact Or.inl rfl | exact Or.inr rfl)) (gs_cons (g_name (i := 5) scs__law_plan_end.nd rfl (by first | exact Or.inl rfl | exact Or.inr rfl)) gs_nil)) (gC_len (gC_len gE_len)))))))))))
      (s_one (s_ret (m_tup (a_cons m_str (a_cons (m_var 4 (pv 4)) (a_cons (m_var 5 (pv 5)) a_nil)))))))))
      (fun _ _ _ _ _ _ us hl => match us, hl with | [_, _, _, _], _ => rfl)
theorem ok__law_times_over (W : Wdk66 K mg) : Fnc P w K mg base (clk66 K) "_law_times_over" 1 [] Φ__law_times_over :=
  fnc_mk (k := 0) W.d__law_times_over scs__law_times_over W.g__law_times_over (fun cdv A outer s H E hr =>
      (s_one (s_ret (m_ct call_tuple_of pr_tuple (by rfl) W.z_tuple (by rfl) (a_cons (vv (m_comp rfl scs__law_times_over.nd (i_seq (m_var 0 (pv 0))) (own := [("line", 2)]) (blk_ok (by kernel_rfl)) (fun _ _ _ _ _ => (g_name (i := 2) scs__law_times_over.nd rfl (by first | exact Or.inl rfl | exact Or.inr rfl))) (fun _ _ _ _ _ => ts_nil) (fun _ _ _ _ _ => (m_op op_addA pr_add (vv (m_sl sl_all' pr_sl (m_var 2 (pv 2)) p_none (p_some (vv (m_un un_neg pr_neg m_int))))) (vv (m_tup (a_cons (vv (m_op op_mulA pr_mul (vv (m_ix ix_A pr_ix (m_var 2 (pv 2)) (vv (m_un un_neg pr_neg m_int)))) (m_var 1 (pv 1)))) a_nil))))))) a_nil)))))
      (fun _ _ _ _ _ _ us hl => match us, hl with | [_, _], _ => rfl)
theorem ok__law_mixed (W : Wdk66 K mg) (C__law_take : Fnc P w K mg base (clk66 K) "_law_take" 1 [] Φ__law_take) : Fnc P w K mg base (clk66 K) "_law_mixed" 2 [] Φ__law_mixed :=
  fnc_mk (k := 1) W.d__law_mixed scs__law_mixed W.g__law_mixed (fun cdv A outer s H E hr =>
      (s_seq (s_set (i := 2) scs__law_mixed.nd rfl (by first | exact Or.inl rfl | exact Or.inr rfl) (m_ct call_list_of pr_list (by rfl) W.z_list (by rfl) (a_cons (m_var 1 (pv 1)) a_nil)))
      (s_seq (s_for PassesOwn.never rfl (i_range1 (by rfl) W.z_range (a_cons (m_peek (vv (m_cb call_len_seq pr_len (by rfl) W.z_len (by rfl) (a_cons (m_var 2 (pv 2)) a_nil)))) a_nil)) (g_name (i := 3) scs__law_mixed.nd rfl (by first | exact Or.inl rfl | exact Or.inr rfl)) (s_seq (s_set (i := 4) scs__law_mixed.nd rfl (by first | exact Or.inl rfl | exact Or.inr rfl) (oo (vv (m_op op_addA pr_add (m_var 3 (pv 3)) (vv (m_callF C__law_take (hr.mono (by decide)) (by rfl) (r_mut 0 (pv 0) (r_cons (vv (m_op op_sub pr_sub (m_peek (vv (m_cb call_len_seq pr_len (by rfl) W.z_len (by rfl) (a_cons (m_var 2 (pv 2)) a_nil)))) (m_var 3 (pv 3)))) r_nil))))))))
      (s_seq (s_set (i := 5) scs__law_mixed.nd rfl (by first | exact Or.inl rfl | exact Or.inr rfl) (oo (m_ixO 2 (pv 2) (m_var 3 (pv 3)))))
      (s_seq (s_store 2 (pv 2) (m_var 3 (pv 3)) (m_ixO 2 (pv 2) (m_var 4 (pv 4))))
      (s_one (s_store 2 (pv 2) (m_var 4 (pv 4)) (m_var 5 (pv 5))))))))
      (s_one (s_ret (oo (m_frz 2 (pv 2))))))))
      (fun _ _ _ _ _ _ us hl => match us, hl with | [_, _], _ => rfl)
theorem ok__law_turned_plan (W : Wdk66 K mg) (C__law_mixed : Fnc P w K mg base (clk66 K) "_law_mixed" 2 [] Φ__law_mixed) (C__law_take : Fnc P w K mg base (clk66 K) "_law_take" 1 [] Φ__law_take) : Fnc P w K mg base (clk66 K) "_law_turned_plan" 3 [] Φ__law_turned_plan :=
  fnc_mk (k := 2) W.d__law_turned_plan scs__law_turned_plan W.g__law_turned_plan (fun cdv A outer s H E hr =>
      (s_seq (s_par (i := 2) (j := 3) rfl scs__law_turned_plan.nd rfl rfl rfl rfl (o_cons (oo (vv (m_callF C__law_take (hr.mono (by decide)) (by rfl) (r_mut 0 (pv 0) (r_cons (vv (m_cb call_len_seq pr_len (by rfl) W.z_len (by rfl) (a_cons (m_var 1 (pv 1)) a_nil))) r_nil))))) (o_cons (oo (vv (m_callF C__law_take (hr.mono (by decide)) (by rfl) (r_mut 0 (pv 0) (r_cons m_int r_nil))))) o_nil)) (by rfl))
      (s_seq (s_if (mT_cmp (op_eqD hr.units) pr_eq (m_var 3 (pv 3)) m_int) (s_one (s_ret (m_op op_addA pr_add (vv (m_sl sl_all' pr_sl (m_var 1 (pv 1)) p_none (p_some (m_var 2 (pv 2))))) (vv (m_sl sl_all' pr_sl (m_var 1 (pv 1)) (p_some (vv (m_op op_addA pr_add (m_var 2 (pv 2)) m_int))) p_none)))))
      s_nil)
      (s_seq (s_if (mT_cmp (op_eqD hr.units) pr_eq (m_var 3 (pv 3)) m_int) (s_one (s_ret (m_op op_addA pr_add (vv (m_op op_addA pr_add (vv (m_sl sl_all' pr_sl (m_var 1 (pv 1)) p_none (p_some (m_var 2 (pv 2))))) (vv (m_tup (a_cons (vv (m_op op_addA pr_add (vv (m_sl sl_all' pr_sl (vv (m_ix ix_A pr_ix (m_var 1 (pv 1)) (m_var 2 (pv 2)))) p_none (p_some (vv (m_un un_neg pr_neg m_int))))) (vv (m_tup (a_cons (vv (m_op op_addA pr_add (vv (m_op op_addA pr_add (vv (m_ix ix_A pr_ix (vv (m_ix ix_A pr_ix (m_var 1 (pv 1)) (m_var 2 (pv 2)))) (vv (m_un un_neg pr_neg m_int)))) m_int)) (vv (m_callF C__law_take (hr.mono (by decide)) (by rfl) (r_mut 0 (pv 0) (r_cons m_int r_nil)))))) a_nil))))) a_nil))))) (vv (m_sl sl_all' pr_sl (m_var 1 (pv 1)) (p_some (vv (m_op op_addA pr_add (m_var 2 (pv 2)) m_int))) p_none)))))
      s_nil)
      (s_one (s_ret (m_ct call_tuple_of pr_tuple (by rfl) W.z_tuple (by rfl) (a_cons (vv (m_callF C__law_mixed (hr.mono (by decide)) (by rfl) (r_mut 0 (pv 0) (r_cons (m_var 1 (pv 1)) r_nil)))) a_nil))))))))
      (fun _ _ _ _ _ _ us hl => match us, hl with | [_, _], _ => rfl)
theorem ok_is_times (W : Wdk66 K mg) (C_is_integer : Fnc P w K mg base (clk66 K) "is_integer" 1 [] Φ_is_integer) : Fnc P w K mg base (clk66 K) "is_times" 2 [] Φ_is_times :=
  fnc_mk (k := 1) W.d_is_times scs_is_times W.g_is_times (fun cdv A outer s H E hr =>
      (s_one (s_ret (oo (m_and (vv (m_callF C_is_integer (hr.mono (by decide)) (by rfl) (r_cons (m_var 0 (pv 0)) r_nil))) (m_one (vv (m_cmp op_ge pr_cmp (m_var 0 (pv 0)) m_int))))))))
      (fun _ _ _ _ _ _ us hl => match us, hl with | [_], _ => rfl)
theorem ok_is_line (W : Wdk66 K mg) (C_is_below : Fnc P w K mg base (clk66 K) "is_below" 2 [] Φ_is_below) (C_is_row : Fnc P w K mg base (clk66 K) "is_row" 2 [] Φ_is_row) (C_is_times : Fnc P w K mg base (clk66 K) "is_times" 2 [] Φ_is_times) (C_is_word : Fnc P w K mg base (clk66 K) "is_word" 1 [] Φ_is_word) : Fnc P w K mg base (clk66 K) "is_line" 3 [] Φ_is_line :=
  fnc_mk (k := 2) W.d_is_line scs_is_line W.g_is_line (fun cdv A outer s H E hr =>
      (s_seq (s_if (mW_and (mT_truth (vv (m_callF C_is_row (hr.mono (by decide)) (by rfl) (r_cons (m_var 1 (pv 1)) (r_cons m_int r_nil))))) (mW_and1 (mT_truth (vv (m_callF C_is_word (hr.mono (by decide)) (by rfl) (r_cons (vv (m_ix ix_A pr_ix (m_var 1 (pv 1)) m_int)) (r_cons m_str r_nil))))))).pt (s_one (s_ret (m_callF C_is_times (hr.mono (by decide)) (by rfl) (r_cons (vv (m_ix ix_A pr_ix (m_var 1 (pv 1)) m_int)) r_nil))))
      s_nil)
      (s_seq (s_if (mW_or (mT_not (mT_truth (vv (m_callF C_is_row (hr.mono (by decide)) (by rfl) (r_cons (m_var 1 (pv 1)) (r_cons m_int r_nil)))))) (mW_or (mT_not (mT_truth (vv (m_callF C_is_word (hr.mono (by decide)) (by rfl) (r_cons (vv (m_ix ix_A pr_ix (m_var 1 (pv 1)) m_int)) (r_cons m_str r_nil)))))) (mW_or1 (mT_not (mT_truth (vv (m_callF C_is_below (hr.mono (by decide)) (by rfl) (r_cons (vv (m_ix ix_A pr_ix (m_var 1 (pv 1)) m_int)) (r_cons (vv (m_cb call_len_seq pr_len (by rfl) W.z_len (by rfl) (a_cons (vv (m_fld (cs := [0]) W.f_rows (m_var 0 (pv 0)))) a_nil))) r_nil))))))))).pt (s_one (s_ret (oo m_bl)))
      s_nil)
      (s_seq (s_if (mW_or (mT_not (mT_truth (vv (m_callF C_is_below (hr.mono (by decide)) (by rfl) (r_cons (vv (m_ix ix_A pr_ix (m_var 1 (pv 1)) m_int)) (r_cons (vv (m_fld (cs := [0]) W.f_kinds (m_var 0 (pv 0)))) r_nil)))))) (mW_or1 (mT_cmp op_isN pr_isN (vv (m_ix ix_A pr_ix (vv (m_ix ix_A pr_ix (vv (m_fld (cs := [0]) W.f_rows (m_var 0 (pv 0)))) (vv (m_ix ix_A pr_ix (m_var 1 (pv 1)) m_int)))) (vv (m_ix ix_A pr_ix (m_var 1 (pv 1)) m_int)))) m_non))).pt (s_one (s_ret (oo m_bl)))
      s_nil)
      (s_one (s_ret (m_callF C_is_times (hr.mono (by decide)) (by rfl) (r_cons (vv (m_ix ix_A pr_ix (m_var 1 (pv 1)) m_int)) r_nil))))))))
      (fun _ _ _ _ _ _ us hl => match us, hl with | [_, _], _ => rfl)
theorem ok_need_plan (W : Wdk66 K mg) (C_is_between : Fnc P w K mg base (clk66 K) "is_between" 2 [] Φ_is_between) (C_is_line : Fnc P w K mg base (clk66 K) "is_line" 3 [] Φ_is_line) (C_is_sequence : Fnc P w K mg base (clk66 K) "is_sequence" 1 [] Φ_is_sequence) : Fnc P w K mg base (clk66 K) "need_plan" 4 [] Φ_need_plan :=
  fnc_mk (k := 3) W.d_need_plan scs_need_plan W.g_need_plan (fun cdv A outer s H E hr =>
      (s_seq (s_if (mW_or (mT_not (mT_truth (vv (m_callF C_is_sequence (hr.mono (by decide)) (by rfl) (r_cons (m_var 1 (pv 1)) r_nil))))) (mW_or1 (mT_cmp op_gt pr_cmp (vv (m_cb call_len_seq pr_len (by rfl) W.z_len (by rfl) (a_cons (m_var 1 (pv 1)) a_nil))) (m_gint (by rfl) W.i_MOST_LINES)))).pt (s_one s_no)
      s_nil)
      (s_one (s_for PassesOwn.never rfl (i_enum (by rfl) W.z_enumerate (a_cons (m_var 1 (pv 1)) a_nil)) (g_tup rfl (gs_cons (g_name (i := 2) scs_need_plan.nd rfl (by first | exact Or.inl rfl | exact Or.inr rfl)) (gs_cons (g_name (i := 3) scs_need_plan.nd rfl (by first | exact Or.inl rfl | exact Or.inr rfl)) gs_nil)) (gC_len (gC_len gE_len))) (s_one (s_if (mW_or (mT_not (mT_truth (vv (m_callF C_is_line (hr.mono (by decide)) (by rfl) (r_cons (m_var 0 (pv 0)) (r_cons (m_var 3 (pv 3)) r_nil)))))) (mW_or1 (mT_not (mT_truth (vv (m_callF C_is_between (hr.mono (by decide)) (by rfl) (r_cons (vv (m_ix ix_A pr_ix (m_var 3 (pv 3)) (vv (m_un un_neg pr_neg m_int)))) (r_cons m_int (r_cons (m_gint (by rfl) W.i_MOST_PLANNED) r_nil))))))))).pt (s_one s_no)
      s_nil))))))
      (fun _ _ _ _ _ _ us hl => match us, hl with | [_, _], _ => rfl)
theorem ok_fare_before (W : Wdk66 K mg) : Fnc P w K mg base (clk66 K) "fare_before" 1 [] Φ_fare_before :=
  fnc_mk (k := 0) W.d_fare_before scs_fare_before W.g_fare_before (fun cdv A outer s H E hr =>
      (s_seq (s_asg (vv (m_ix ix_A pr_ix (vv (m_fld (cs := [1]) W.f_visits (m_var 0 (pv 0)))) (m_var 1 (pv 1)))) (g_tup rfl (gs_cons (g_name (i := 3) scs_fare_before.nd rfl (by first | exact Or.inl rfl | exact Or.inr rfl)) (gs_cons (g_name (i := 4) scs_fare_before.nd rfl (by first | exact Or.inl rfl | exact Or.inr rfl)) gs_nil)) (gC_len (gC_len gE_len))))
      (s_one (s_ret (m_ct call_tuple_of pr_tuple (by rfl) W.z_tuple (by rfl) (a_cons (vv (m_comp rfl scs_fare_before.nd (i_seq (vv (m_lz3 (by rfl) W.z_list (by rfl) W.z_zip rfl (a_cons (m_var 3 (pv 3)) (a_cons (m_var 4 (pv 4)) (a_cons (m_var 2 (pv 2)) a_nil)))))) (own := [("cost", 5), ("more", 6), ("rest", 7)]) (blk_ok (by kernel_rfl)) (fun _ _ _ _ _ => (g_tup rfl (gs_cons (g_name (i := 5) scs_fare_before.nd rfl (by first | exact Or.inl rfl | exact Or.inr rfl)) (gs_cons (g_name (i := 6) scs_fare_before.nd rfl (by first | exact Or.inl rfl | exact Or.inr rfl)) (gs_cons (g_name (i := 7) scs_fare_before.nd rfl (by first | exact Or.inl rfl | exact Or.inr rfl)) gs_nil))) (gC_len (gC_len (gC_len gE_len))))) (fun _ _ _ _ _ => ts_nil) (fun _ _ _ _ _ => (m_cb (call_maxA rfl) pr_max (by rfl) W.z_max (by rfl) (a_cons (m_var 5 (pv 5)) (a_cons (vv (m_op op_addA pr_add (vv (m_op op_sub pr_sub (m_var 7 (pv 7)) (m_var 6 (pv 6)))) (m_var 5 (pv 5)))) a_nil)))))) a_nil))))))
      (fun _ _ _ _ _ _ us hl => match us, hl with | [_, _, _], _ => rfl)
theorem ok_fare_row (W : Wdk66 K mg) (C_fare_before : Fnc P w K mg base (clk66 K) "fare_before" 1 [] Φ_fare_before) : Fnc P w K mg base (clk66 K) "fare_row" 2 [] Φ_fare_row :=
  fnc_mk (k := 1) W.d_fare_row scs_fare_row W.g_fare_row (fun cdv A outer s H E hr =>
      (s_seq (s_set (i := 2) scs_fare_row.nd rfl (by first | exact Or.inl rfl | exact Or.inr rfl) (oo (vv (m_op op_mulA pr_mul (vv (m_tup (a_cons m_int a_nil))) (vv (m_cb call_len_seq pr_len (by rfl) W.z_len (by rfl) (a_cons (vv (m_fld (cs := [1]) W.f_purse (m_var 0 (pv 0)))) a_nil)))))))
      (s_seq (s_for PassesOwn.never rfl (i_rev (by rfl) W.z_reversed (m_var 1 (pv 1))) (g_name (i := 3) scs_fare_row.nd rfl (by first | exact Or.inl rfl | exact Or.inr rfl)) (s_one (s_set (i := 2) scs_fare_row.nd rfl (by first | exact Or.inl rfl | exact Or.inr rfl) (oo (vv (m_callF C_fare_before (hr.mono (by decide)) (by rfl) (r_cons (m_var 0 (pv 0)) (r_cons (m_var 3 (pv 3)) (r_cons (m_var 2 (pv 2)) r_nil)))))))))
      (s_one (s_ret (oo (m_var 2 (pv 2))))))))
      (fun _ _ _ _ _ _ us hl => match us, hl with | [_, _], _ => rfl)
theorem ok_nets_of (W : Wdk66 K mg) : Fnc P w K mg base (clk66 K) "nets_of" 1 [] Φ_nets_of :=
  fnc_mk (k := 0) W.d_nets_of scs_nets_of W.g_nets_of (fun cdv A outer s H E hr =>
      (s_one (s_ret (m_comp rfl scs_nets_of.nd (i_seq (vv (m_fld (cs := [1]) W.f_visits (m_var 0 (pv 0))))) (own := [("visit", 1)]) (blk_ok (by kernel_rfl)) (fun _ _ _ _ _ => (g_name (i := 1) scs_nets_of.nd rfl (by first | exact Or.inl rfl | exact Or.inr rfl))) (fun _ _ _ _ _ => ts_nil) (fun _ _ _ _ _ => (m_ct call_tuple_of pr_tuple (by rfl) W.z_tuple (by rfl) (a_cons (vv (m_comp rfl scs_nets_of.nd (i_seq (vv (m_lz2 (by rfl) W.z_list (by rfl) W.z_zip rfl (a_cons (vv (m_ix ix_A pr_ix (m_var 1 (pv 1)) m_int)) (a_cons (vv (m_ix ix_A pr_ix (m_var 1 (pv 1)) m_int)) a_nil))))) (own := [("fee", 2), ("gain", 3)]) (blk_ok (by kernel_rfl)) (fun _ _ _ _ _ => (g_tup rfl (gs_cons (g_name (i := 2) scs_nets_of.nd rfl (by first | exact Or.inl rfl | exact Or.inr rfl)) (gs_cons (g_name (i := 3) scs_nets_of.nd rfl (by first | exact Or.inl rfl | exact Or.inr rfl)) gs_nil)) (gC_len (gC_len gE_len)))) (fun _ _ _ _ _ => ts_nil) (fun _ _ _ _ _ => (m_op op_sub pr_sub (m_var 3 (pv 3)) (m_var 2 (pv 2)))))) a_nil)))))))
      (fun _ _ _ _ _ _ us hl => match us, hl with | [_], _ => rfl)
theorem ok_net_row (W : Wdk66 K mg) (C_nets_of : Fnc P w K mg base (clk66 K) "nets_of" 1 [] Φ_nets_of) : Fnc P w K mg base (clk66 K) "net_row" 2 [] Φ_net_row :=
  fnc_mk (k := 1) W.d_net_row scs_net_row W.g_net_row (fun cdv A outer s H E hr =>
      (s_seq (s_set (i := 2) scs_net_row.nd rfl (by first | exact Or.inl rfl | exact Or.inr rfl) (oo (vv (m_callF C_nets_of (hr.mono (by decide)) (by rfl) (r_cons (m_var 0 (pv 0)) r_nil)))))
      (s_seq (s_set (i := 3) scs_net_row.nd rfl (by first | exact Or.inl rfl | exact Or.inr rfl) (oo (vv (m_op op_mulA pr_mul (vv (m_lst (a_cons m_int a_nil))) (vv (m_cb call_len_seq pr_len (by rfl) W.z_len (by rfl) (a_cons (vv (m_fld (cs := [1]) W.f_purse (m_var 0 (pv 0)))) a_nil)))))))
      (s_seq (s_for PassesOwn.never rfl (i_seq (m_var 1 (pv 1))) (g_name (i := 4) scs_net_row.nd rfl (by first | exact Or.inl rfl | exact Or.inr rfl)) (s_one (s_setLcF (i := 3) rfl scs_net_row.nd rfl rfl (by rfl) (i_seq (vv (m_lz2 (by rfl) W.z_list (by rfl) W.z_zip rfl (a_cons (m_var 3 (pv 3)) (a_cons (vv (m_ix ix_A pr_ix (m_var 2 (pv 2)) (m_var 4 (pv 4)))) a_nil))))) (own := [("one", 5), ("more", 6)]) (blk_ok (by kernel_rfl)) (fun _ _ _ _ _ => (g_tup rfl (gs_cons (g_name (i := 5) scs_net_row.nd rfl (by first | exact Or.inl rfl | exact Or.inr rfl)) (gs_cons (g_name (i := 6) scs_net_row.nd rfl (by first | exact Or.inl rfl | exact Or.inr rfl)) gs_nil)) (gC_len (gC_len gE_len)))) (fun _ _ _ _ _ => ts_nil) (fun _ _ _ _ _ => (m_op op_addA pr_add (m_var 5 (pv 5)) (m_var 6 (pv 6)))))))
      (s_one (s_ret (m_ct call_tuple_of pr_tuple (by rfl) W.z_tuple (by rfl) (a_cons (m_var 3 (pv 3)) a_nil))))))))
      (fun _ _ _ _ _ _ us hl => match us, hl with | [_, _], _ => rfl)
theorem ok_fare_often (W : Wdk66 K mg) (C_fare_row : Fnc P w K mg base (clk66 K) "fare_row" 2 [] Φ_fare_row) (C_net_row : Fnc P w K mg base (clk66 K) "net_row" 2 [] Φ_net_row) : Fnc P w K mg base (clk66 K) "fare_often" 3 [] Φ_fare_often :=
  fnc_mk (k := 2) W.d_fare_often scs_fare_often W.g_fare_often (fun cdv A outer s H E hr =>
      (s_seq (s_set (i := 3) scs_fare_often.nd rfl (by first | exact Or.inl rfl | exact Or.inr rfl) (oo (vv (m_lz2 (by rfl) W.z_list (by rfl) W.z_zip rfl (a_cons (vv (m_callF C_fare_row (hr.mono (by decide)) (by rfl) (r_cons (m_var 0 (pv 0)) (r_cons (m_var 1 (pv 1)) r_nil)))) (a_cons (vv (m_callF C_net_row (hr.mono (by decide)) (by rfl) (r_cons (m_var 0 (pv 0)) (r_cons (m_var 1 (pv 1)) r_nil)))) a_nil))))))
      (s_one (s_ret (m_ct call_tuple_of pr_tuple (by rfl) W.z_tuple (by rfl) (a_cons (vv (m_comp rfl scs_fare_often.nd (i_seq (m_var 3 (pv 3))) (own := [("fare", 4), ("net", 5)]) (blk_ok (by kernel_rfl)) (fun _ _ _ _ _ => (g_tupL rfl (gs_cons (g_name (i := 4) scs_fare_often.nd rfl (by first | exact Or.inl rfl | exact Or.inr rfl)) (gs_cons (g_name (i := 5) scs_fare_often.nd rfl (by first | exact Or.inl rfl | exact Or.inr rfl)) gs_nil)) (gC_len (gC_len gE_len)))) (fun _ _ _ _ _ => ts_nil) (fun _ _ _ _ _ => (m_op op_sub pr_sub (m_var 4 (pv 4)) (vv (m_op op_mulA pr_mul (vv (m_cb (call_min2 rfl) pr_min (by rfl) W.z_min (by rfl) (a_cons m_int (a_cons (m_var 5 (pv 5)) a_nil)))) (vv (m_op op_sub pr_sub (m_var 2 (pv 2)) m_int)))))))) a_nil))))))
      (fun _ _ _ _ _ _ us hl => match us, hl with | [_, _, _], _ => rfl)
theorem ok_plan_end (W : Wdk66 K mg) (C_covers : Fnc P w K mg base (clk66 K) "covers" 1 [] Φ_covers) (C_fare_often : Fnc P w K mg base (clk66 K) "fare_often" 3 [] Φ_fare_often) (C_net_row : Fnc P w K mg base (clk66 K) "net_row" 2 [] Φ_net_row) (C_poured : Fnc P w K mg base (clk66 K) "poured" 1 [] Φ_poured) : Fnc P w K mg base (clk66 K) "plan_end" 4 [] Φ_plan_end :=
  fnc_mk (k := 3) W.d_plan_end scs_plan_end W.g_plan_end (fun cdv A outer s H E hr =>
      (s_seq (s_set (i := 3) scs_plan_end.nd rfl (by first | exact Or.inl rfl | exact Or.inr rfl) (m_op op_mulA pr_mul (vv (m_lst (a_cons m_int a_nil))) (vv (m_cb call_len_seq pr_len (by rfl) W.z_len (by rfl) (a_cons (vv (m_fld (cs := [0]) W.f_rows (m_var 0 (pv 0)))) a_nil)))))
      (s_seq (s_set (i := 4) scs_plan_end.nd rfl (by first | exact Or.inl rfl | exact Or.inr rfl) (oo (vv (m_op op_mulA pr_mul (vv (m_tup (a_cons m_int a_nil))) (vv (m_cb call_len_seq pr_len (by rfl) W.z_len (by rfl) (a_cons (vv (m_fld (cs := [1]) W.f_purse (m_var 1 (pv 1)))) a_nil)))))))
      (s_seq (s_for PassesOwn.never rfl (i_enum (by rfl) W.z_enumerate (a_cons (m_var 2 (pv 2)) a_nil)) (g_tup rfl (gs_cons (g_name (i := 5) scs_plan_end.nd rfl (by first | exact Or.inl rfl | exact Or.inr rfl)) (gs_cons (g_name (i := 6) scs_plan_end.nd rfl (by first | exact Or.inl rfl | exact Or.inr rfl)) gs_nil)) (gC_len (gC_len gE_len))) (s_seq (s_set (i := 7) scs_plan_end.nd rfl (by first | exact Or.inl rfl | exact Or.inr rfl) (oo (vv (m_ix ix_A pr_ix (m_var 6 (pv 6)) (vv (m_un un_neg pr_neg m_int))))))
      (s_one (s_if (mT_cmp (op_eqD hr.units) pr_eq (vv (m_cb call_len_seq pr_len (by rfl) W.z_len (by rfl) (a_cons (m_var 6 (pv 6)) a_nil))) m_int) (s_seq (s_augI 3 (pv 3) m_int ip_add (m_var 7 (pv 7)))
      (s_one (s_set (i := 4) scs_plan_end.nd rfl (by first | exact Or.inl rfl | exact Or.inr rfl) (oo (vv (m_callF C_poured (hr.mono (by decide)) (by rfl) (r_cons (m_var 4 (pv 4)) (r_cons (vv (m_fld (cs := [1]) W.f_purse (m_var 1 (pv 1)))) (r_cons (m_var 7 (pv 7)) r_nil)))))))))
      (s_seq (s_set (i := 8) scs_plan_end.nd rfl (by first | exact Or.inl rfl | exact Or.inr rfl) (oo (vv (m_tup (a_cons (vv (m_ix ix_A pr_ix (m_var 6 (pv 6)) m_int)) a_nil)))))
      (s_seq (s_if (mW_or (mT_cmp op_lt pr_cmp (m_ixO 3 (pv 3) (vv (m_ix ix_A pr_ix (m_var 6 (pv 6)) m_int))) (m_var 7 (pv 7))) (mW_or1 (mT_not (mT_truth (vv (m_callF C_covers (hr.mono (by decide)) (by rfl) (r_cons (m_var 4 (pv 4)) (r_cons (vv (m_callF C_fare_often (hr.mono (by decide)) (by rfl) (r_cons (m_var 1 (pv 1)) (r_cons (m_var 8 (pv 8)) (r_cons (m_var 7 (pv 7)) r_nil))))) r_nil)))))))).pt (s_one (s_ret (m_tup (a_cons m_str (a_cons (m_var 5 (pv 5)) a_nil)))))
      s_nil)
      (s_seq (s_augI 3 (pv 3) (vv (m_ix ix_A pr_ix (m_var 6 (pv 6)) m_int)) ip_sub (m_var 7 (pv 7)))
      (s_seq (s_augI 3 (pv 3) (vv (m_ix ix_A pr_ix (vv (m_ix ix_A pr_ix (vv (m_fld (cs := [0]) W.f_rows (m_var 0 (pv 0)))) (vv (m_ix ix_A pr_ix (m_var 6 (pv 6)) m_int)))) (vv (m_ix ix_A pr_ix (m_var 6 (pv 6)) m_int)))) ip_add (m_var 7 (pv 7)))
      (s_one (s_set (i := 4) scs_plan_end.nd rfl (by first | exact Or.inl rfl | exact Or.inr rfl) (oo (vv (m_callF C_poured (hr.mono (by decide)) (by rfl) (r_cons (m_var 4 (pv 4)) (r_cons (vv (m_callF C_net_row (hr.mono (by decide)) (by rfl) (r_cons (m_var 1 (pv 1)) (r_cons (m_var 8 (pv 8)) r_nil)))) (r_cons (m_var 7 (pv 7)) r_nil))))))))))))))))
      (s_one (s_ret (m_tup (a_cons m_str (a_cons (vv (m_ct call_tuple_of pr_tuple (by rfl) W.z_tuple (by rfl) (a_cons (m_frz 3 (pv 3)) a_nil))) (a_cons (m_var 4 (pv 4)) a_nil))))))))))
      (fun _ _ _ _ _ _ us hl => match us, hl with | [_, _, _], _ => rfl)
theorem ok_carried (W : Wdk66 K mg) (C_need_book : Fnc P w K mg base (clk66 K) "need_book" 1 [.int (-1)] Φ_need_book) (C_need_doors : Fnc P w K mg base (clk66 K) "need_doors" 1 [] Φ_need_doors) (C_need_plan : Fnc P w K mg base (clk66 K) "need_plan" 4 [] Φ_need_plan) (C_plan_end : Fnc P w K mg base (clk66 K) "plan_end" 4 [] Φ_plan_end) : Fnc P w K mg base (clk66 K) "carried" 5 [] Φ_carried :=
  fnc_mk (k := 4) W.d_carried scs_carried W.g_carried (fun cdv A outer s H E hr =>
      (s_seq (s_ex (vv (m_callF C_need_book (hr.mono (by decide)) (by rfl) (r_cons (m_var 0 (pv 0)) r_nil))))
      (s_seq (s_ex (vv (m_callF C_need_doors (hr.mono (by decide)) (by rfl) (r_cons (m_var 1 (pv 1)) (r_cons (vv (m_un un_neg pr_neg m_int)) (r_cons (vv (m_fld (cs := [0]) W.f_kinds (m_var 0 (pv 0)))) r_nil))))))
      (s_seq (s_ex (vv (m_callF C_need_plan (hr.mono (by decide)) (by rfl) (r_cons (m_var 0 (pv 0)) (r_cons (m_var 2 (pv 2)) r_nil)))))
      (s_one (s_ret (m_callF C_plan_end (hr.mono (by decide)) (by rfl) (r_cons (m_var 0 (pv 0)) (r_cons (m_var 1 (pv 1)) (r_cons (m_var 2 (pv 2)) r_nil))))))))))
      (fun _ _ _ _ _ _ us hl => match us, hl with | [_, _, _], _ => rfl)
theorem ok_law (W : Wdk66 K mg) (C__law_are_doors : Fnc P w K mg base (clk66 K) "_law_are_doors" 9 [] Φ__law_are_doors) (C__law_book : Fnc P w K mg base (clk66 K) "_law_book" 9 [] Φ__law_book) (C__law_box : Fnc P w K mg base (clk66 K) "_law_box" 1 [] Φ__law_box) (C__law_crowd_case : Fnc P w K mg base (clk66 K) "_law_crowd_case" 6 [] Φ__law_crowd_case) (C__law_doors : Fnc P w K mg base (clk66 K) "_law_doors" 9 [] Φ__law_doors) (C__law_drawn_plan : Fnc P w K mg base (clk66 K) "_law_drawn_plan" 2 [] Φ__law_drawn_plan) (C__law_is_book : Fnc P w K mg base (clk66 K) "_law_is_book" 9 [] Φ__law_is_book) (C__law_is_written : Fnc P w K mg base (clk66 K) "_law_is_written" 9 [] Φ__law_is_written) (C__law_loose : Fnc P w K mg base (clk66 K) "_law_loose" 8 [] (Φ__law_loose fuel__law_loose)) (C__law_pick : Fnc P w K mg base (clk66 K) "_law_pick" 2 [] Φ__law_pick) (C__law_plan_end : Fnc P w K mg base (clk66 K) "_law_plan_end" 2 [] Φ__law_plan_end) (C__law_same : Fnc P w K mg base (clk66 K) "_law_same" 8 [] (Φ__law_same fuel__law_same)) (C__law_take : Fnc P w K mg base (clk66 K) "_law_take" 1 [] Φ__law_take) (C__law_times_over : Fnc P w K mg base (clk66 K) "_law_times_over" 1 [] Φ__law_times_over) (C__law_turned_plan : Fnc P w K mg base (clk66 K) "_law_turned_plan" 3 [] Φ__law_turned_plan) (C_carried : Fnc P w K mg base (clk66 K) "carried" 5 [] Φ_carried) {fd : FuncData} (Fd : FunD K "law" "law" (defArgs s_law) (defBody s_law) (defScope s_law) [] [] (He.ga K "law") fd) : FnOk P w K mg base CX0 10 (He.ga K "law") fd ["script"] (spF K (clk66 K) 1 Φ_law) :=
  fn0D (k := 9) Fd scs_law (fun cdv A outer s H E hr =>
      (s_seq (s_set (i := 1) scs_law.nd rfl (by first | exact Or.inl rfl | exact Or.inr rfl) (m_callF C__law_box (hr.mono (by decide)) (by rfl) (r_cons (m_var 0 (pv 0)) r_nil)))
      (s_seq (s_for PassesOwn.never rfl (i_range1 (by rfl) W.z_range (a_cons m_int a_nil)) (g_name (i := 2) scs_law.nd rfl (by first | exact Or.inl rfl | exact Or.inr rfl)) (s_seq (s_asg (vv (m_callF C__law_crowd_case (hr.mono (by decide)) (by rfl) (r_mut 1 (pv 1) r_nil))) (g_tup rfl (gs_cons (g_name (i := 3) scs_law.nd rfl (by first | exact Or.inl rfl | exact Or.inr rfl)) (gs_cons (g_name (i := 4) scs_law.nd rfl (by first | exact Or.inl rfl | exact Or.inr rfl)) (gs_cons (g_name (i := 5) scs_law.nd rfl (by first | exact Or.inl rfl | exact Or.inr rfl)) gs_nil))) (gC_len (gC_len (gC_len gE_len)))))
      (s_seq (s_par (i := 6) (j := 7) rfl scs_law.nd rfl rfl rfl rfl (o_cons (oo (vv (m_callF C__law_book (hr.mono (by decide)) (by rfl) (r_mut 1 (pv 1) (r_cons (m_var 3 (pv 3)) r_nil))))) (o_cons (oo (vv (m_callF C__law_doors (hr.mono (by decide)) (by rfl) (r_mut 1 (pv 1) (r_cons (m_var 4 (pv 4)) (r_cons (m_var 5 (pv 5)) r_nil)))))) o_nil)) (by rfl))
      (s_seq (s_set (i := 8) scs_law.nd rfl (by first | exact Or.inl rfl | exact Or.inr rfl) (oo (vv (m_callF C__law_drawn_plan (hr.mono (by decide)) (by rfl) (r_mut 1 (pv 1) (r_cons (m_var 3 (pv 3)) (r_cons (m_var 4 (pv 4)) (r_cons (m_var 5 (pv 5)) (r_cons (vv (m_op op_addA pr_add m_int (vv (m_callF C__law_take (hr.mono (by decide)) (by rfl) (r_mut 1 (pv 1) (r_cons m_int r_nil)))))) (r_cons m_int r_nil))))))))))
      (s_seq (s_set (i := 9) scs_law.nd rfl (by first | exact Or.inl rfl | exact Or.inr rfl) (oo (vv (m_callF C__law_drawn_plan (hr.mono (by decide)) (by rfl) (r_mut 1 (pv 1) (r_cons (m_var 3 (pv 3)) (r_cons (m_var 4 (pv 4)) (r_cons (m_var 5 (pv 5)) (r_cons (vv (m_op op_addA pr_add m_int (vv (m_callF C__law_take (hr.mono (by decide)) (by rfl) (r_mut 1 (pv 1) (r_cons m_int r_nil)))))) (r_cons m_int r_nil))))))))))
      (s_seq (s_set (i := 10) scs_law.nd rfl (by first | exact Or.inl rfl | exact Or.inr rfl) (oo (vv (m_callF C__law_pick (hr.mono (by decide)) (by rfl) (r_mut 1 (pv 1) (r_cons (vv (m_lst (a_cons m_int (a_cons m_int (a_cons (vv (m_op op_pow pr_pow m_int m_int)) (a_cons (vv (m_op op_pow pr_pow m_int m_int)) a_nil)))))) r_nil))))))
      (s_seq (s_set (i := 11) scs_law.nd rfl (by first | exact Or.inl rfl | exact Or.inr rfl) (oo (vv (m_callF C__law_turned_plan (hr.mono (by decide)) (by rfl) (r_mut 1 (pv 1) (r_cons (m_var 8 (pv 8)) r_nil))))))
      (s_seq (s_for PassesOwn.never rfl (i_seq (vv (m_lst (a_cons (m_var 8 (pv 8)) (a_cons (m_var 9 (pv 9)) (a_cons (vv (m_op op_addA pr_add (m_var 8 (pv 8)) (m_var 9 (pv 9)))) (a_cons (vv (m_op op_addA pr_add (m_var 9 (pv 9)) (m_var 8 (pv 8)))) (a_cons (m_var 11 (pv 11)) (a_cons (vv (m_callF C__law_times_over (hr.mono (by decide)) (by rfl) (r_cons (m_var 8 (pv 8)) (r_cons (m_var 10 (pv 10)) r_nil)))) (a_cons (vv (m_op op_addA pr_add (m_var 11 (pv 11)) (m_var 9 (pv 9)))) a_nil)))))))))) (g_name (i := 12) scs_law.nd rfl (by first | exact Or.inl rfl | exact Or.inr rfl)) (s_one (s_if (mT_not (mT_truth (vv (m_callF C__law_same (hr.mono (by decide)) (by rfl) (r_cons (vv (m_callF C_carried (hr.mono (by decide)) (by rfl) (r_cons (m_var 6 (pv 6)) (r_cons (m_var 7 (pv 7)) (r_cons (vv (m_callF C__law_loose (hr.mono (by decide)) (by rfl) (r_mut 1 (pv 1) (r_cons (m_var 12 (pv 12)) r_nil)))) r_nil))))) (r_cons (vv (m_callF C__law_plan_end (hr.mono (by decide)) (by rfl) (r_cons (m_var 3 (pv 3)) (r_cons (m_var 4 (pv 4)) (r_cons (m_var 5 (pv 5)) (r_cons (m_var 12 (pv 12)) r_nil)))))) r_nil)))))) (s_one (s_ret (oo m_bl)))
      s_nil)))
      (s_seq (s_asg (vv (m_tup (a_cons (vv (m_callF C__law_plan_end (hr.mono (by decide)) (by rfl) (r_cons (m_var 3 (pv 3)) (r_cons (m_var 4 (pv 4)) (r_cons (m_var 5 (pv 5)) (r_cons (m_var 8 (pv 8)) r_nil)))))) (a_cons (vv (m_callF C__law_plan_end (hr.mono (by decide)) (by rfl) (r_cons (m_var 3 (pv 3)) (r_cons (m_var 4 (pv 4)) (r_cons (m_var 5 (pv 5)) (r_cons (m_var 9 (pv 9)) r_nil)))))) a_nil)))) (g_tup rfl (gs_cons (g_name (i := 13) scs_law.nd rfl (by first | exact Or.inl rfl | exact Or.inr rfl)) (gs_cons (g_name (i := 14) scs_law.nd rfl (by first | exact Or.inl rfl | exact Or.inr rfl)) gs_nil)) (gC_len (gC_len gE_len))))
      (s_seq (s_set (i := 15) scs_law.nd rfl (by first | exact Or.inl rfl | exact Or.inr rfl) (oo (vv (m_callF C_carried (hr.mono (by decide)) (by rfl) (r_cons (m_var 6 (pv 6)) (r_cons (m_var 7 (pv 7)) (r_cons (vv (m_op op_addA pr_add (m_var 8 (pv 8)) (m_var 9 (pv 9)))) r_nil)))))))
      (s_seq (s_if (mW_or (mT_cmp (op_neD hr.units) pr_ne (vv (m_ix ix_A pr_ix (m_var 15 (pv 15)) m_int)) m_str) (mW_or1 (mT_cmp (op_neD hr.units) pr_ne (vv (m_ix ix_A pr_ix (m_var 15 (pv 15)) m_int)) (vv (m_ct call_tuple_of pr_tuple (by rfl) W.z_tuple (by rfl) (a_cons (vv (m_comp rfl scs_law.nd (i_range1 (by rfl) W.z_range (a_cons (vv (m_cb call_len_seq pr_len (by rfl) W.z_len (by rfl) (a_cons (m_var 3 (pv 3)) a_nil))) a_nil)) (own := [("at", 17)]) (blk_ok (by kernel_rfl)) (fun _ _ _ _ _ => (g_name (i := 17) scs_law.nd rfl (by first | exact Or.inl rfl | exact Or.inr rfl))) (fun _ _ _ _ _ => ts_nil) (fun _ _ _ _ _ => (m_op op_addA pr_add (vv (m_ix ix_A pr_ix (vv (m_ix ix_A pr_ix (m_var 13 (pv 13)) m_int)) (m_var 17 (pv 17)))) (vv (m_ix ix_A pr_ix (vv (m_ix ix_A pr_ix (m_var 14 (pv 14)) m_int)) (m_var 17 (pv 17)))))))) a_nil)))))).pt (s_one (s_ret (oo m_bl)))
      s_nil)
      (s_seq (s_if (mT_cmp (op_neD hr.units) pr_ne (vv (m_ix ix_A pr_ix (m_var 15 (pv 15)) m_int)) (vv (m_ct call_tuple_of pr_tuple (by rfl) W.z_tuple (by rfl) (a_cons (vv (m_comp rfl scs_law.nd (i_range1 (by rfl) W.z_range (a_cons (vv (m_cb call_len_seq pr_len (by rfl) W.z_len (by rfl) (a_cons (m_var 4 (pv 4)) a_nil))) a_nil)) (own := [("at", 17)]) (blk_ok (by kernel_rfl)) (fun _ _ _ _ _ => (g_name (i := 17) scs_law.nd rfl (by first | exact Or.inl rfl | exact Or.inr rfl))) (fun _ _ _ _ _ => ts_nil) (fun _ _ _ _ _ => (m_op op_addA pr_add (vv (m_ix ix_A pr_ix (vv (m_ix ix_A pr_ix (m_var 13 (pv 13)) m_int)) (m_var 17 (pv 17)))) (vv (m_ix ix_A pr_ix (vv (m_ix ix_A pr_ix (m_var 14 (pv 14)) m_int)) (m_var 17 (pv 17)))))))) a_nil)))) (s_one (s_ret (oo m_bl)))
      s_nil)
      (s_seq (s_set (i := 16) scs_law.nd rfl (by first | exact Or.inl rfl | exact Or.inr rfl) (oo (vv (m_callF C_carried (hr.mono (by decide)) (by rfl) (r_cons (m_var 6 (pv 6)) (r_cons (m_var 7 (pv 7)) (r_cons (vv (m_callF C__law_times_over (hr.mono (by decide)) (by rfl) (r_cons (m_var 8 (pv 8)) (r_cons (m_var 10 (pv 10)) r_nil)))) r_nil)))))))
      (s_seq (s_if (mW_or (mT_cmp (op_neD hr.units) pr_ne (vv (m_ix ix_A pr_ix (m_var 16 (pv 16)) m_int)) m_str) (mW_or1 (mT_cmp (op_neD hr.units) pr_ne (vv (m_ix ix_A pr_ix (m_var 16 (pv 16)) m_int)) (vv (m_ct call_tuple_of pr_tuple (by rfl) W.z_tuple (by rfl) (a_cons (vv (m_comp rfl scs_law.nd (i_seq (vv (m_ix ix_A pr_ix (m_var 13 (pv 13)) m_int))) (own := [("many", 18)]) (blk_ok (by kernel_rfl)) (fun _ _ _ _ _ => (g_name (i := 18) scs_law.nd rfl (by first | exact Or.inl rfl | exact Or.inr rfl))) (fun _ _ _ _ _ => ts_nil) (fun _ _ _ _ _ => (m_op op_mulA pr_mul (m_var 18 (pv 18)) (m_var 10 (pv 10)))))) a_nil)))))).pt (s_one (s_ret (oo m_bl)))
      s_nil)
      (s_seq (s_if (mW_or (mT_cmp (op_neD hr.units) pr_ne (vv (m_ix ix_A pr_ix (m_var 16 (pv 16)) m_int)) (vv (m_ct call_tuple_of pr_tuple (by rfl) W.z_tuple (by rfl) (a_cons (vv (m_comp rfl scs_law.nd (i_seq (vv (m_ix ix_A pr_ix (m_var 13 (pv 13)) m_int))) (own := [("many", 18)]) (blk_ok (by kernel_rfl)) (fun _ _ _ _ _ => (g_name (i := 18) scs_law.nd rfl (by first | exact Or.inl rfl | exact Or.inr rfl))) (fun _ _ _ _ _ => ts_nil) (fun _ _ _ _ _ => (m_op op_mulA pr_mul (m_var 18 (pv 18)) (m_var 10 (pv 10)))))) a_nil)))) (mW_or1 (mT_not (mT_truth (vv (m_callF C__law_is_written (hr.mono (by decide)) (by rfl) (r_cons (m_var 6 (pv 6)) (r_cons (m_var 7 (pv 7)) (r_cons (m_var 3 (pv 3)) (r_cons (m_var 8 (pv 8)) (r_cons (m_var 13 (pv 13)) r_nil))))))))))).pt (s_one (s_ret (oo m_bl)))
      s_nil)
      (s_one (s_if (mW_or (mT_not (mT_truth (vv (m_callF C__law_is_book (hr.mono (by decide)) (by rfl) (r_cons (m_var 6 (pv 6)) (r_cons (m_var 3 (pv 3)) r_nil)))))) (mW_or1 (mT_not (mT_truth (vv (m_callF C__law_are_doors (hr.mono (by decide)) (by rfl) (r_cons (m_var 7 (pv 7)) (r_cons (m_var 4 (pv 4)) (r_cons (m_var 5 (pv 5)) r_nil))))))))).pt (s_one (s_ret (oo m_bl)))
      s_nil)))))))))))))))))
      (s_one (s_ret (oo m_bl))))))
theorem ok_all (W : Wdk66 K mg) {fd : FuncData} (Fd : FunD K "law" "law" (defArgs s_law) (defBody s_law) (defScope s_law) [] [] (He.ga K "law") fd) : FnOk P w K mg base CX0 10 (He.ga K "law") fd ["script"] (spF K (clk66 K) 1 Φ_law) := by
  have C__law_is_int := ok__law_is_int (P := P) (w := w) (base := base) W
  have C__law_same := ok__law_same (P := P) (w := w) (base := base) W C__law_is_int fuel__law_same
  have C__law_are_doors := ok__law_are_doors (P := P) (w := w) (base := base) W C__law_same
  have C_is_integer := ok_is_integer (P := P) (w := w) (base := base) W
  have C_is_below := ok_is_below (P := P) (w := w) (base := base) W C_is_integer
  have C_is_between := ok_is_between (P := P) (w := w) (base := base) W C_is_integer
  have C_is_sequence := ok_is_sequence (P := P) (w := w) (base := base) W
  have C_is_row := ok_is_row (P := P) (w := w) (base := base) W C_is_sequence
  have C_Book___init__ := ok_Book___init__ (P := P) (w := w) (base := base) W C_is_below C_is_between C_is_row C_is_sequence
  have C__law_take := ok__law_take (P := P) (w := w) (base := base) W
  have C__law_loose := ok__law_loose (P := P) (w := w) (base := base) W C__law_take fuel__law_loose
  have C__law_book := ok__law_book (P := P) (w := w) (base := base) W C_Book___init__ C__law_loose
  have C__law_box := ok__law_box (P := P) (w := w) (base := base) W
  have C__law_hall := ok__law_hall (P := P) (w := w) (base := base) W
  have C__law_pick := ok__law_pick (P := P) (w := w) (base := base) W C__law_take
  have C__law_number := ok__law_number (P := P) (w := w) (base := base) W C__law_pick C__law_take
  have C__law_rows := ok__law_rows (P := P) (w := w) (base := base) W C__law_pick C__law_take
  have C__law_visits := ok__law_visits (P := P) (w := w) (base := base) W C__law_number
  have C__law_case := ok__law_case (P := P) (w := w) (base := base) W C__law_hall C__law_number C__law_pick C__law_rows C__law_take C__law_visits
  have C__law_crowd_case := ok__law_crowd_case (P := P) (w := w) (base := base) W C__law_case C__law_pick C__law_rows C__law_take
  have C_is_tickets := ok_is_tickets (P := P) (w := w) (base := base) W C_is_between C_is_row
  have C_is_visit := ok_is_visit (P := P) (w := w) (base := base) W C_is_row C_is_tickets
  have C_Doors___init__ := ok_Doors___init__ (P := P) (w := w) (base := base) W C_is_between C_is_sequence C_is_visit
  have C__law_doors := ok__law_doors (P := P) (w := w) (base := base) W C_Doors___init__ C__law_loose
  have C__law_pool_come := ok__law_pool_come (P := P) (w := w) (base := base) W
  have C__law_pool_move := ok__law_pool_move (P := P) (w := w) (base := base) W
  have C__law_drawn_plan := ok__law_drawn_plan (P := P) (w := w) (base := base) W C__law_pool_come C__law_pool_move C__law_take
  have C__law_is_book := ok__law_is_book (P := P) (w := w) (base := base) W C__law_same
  have C__law_written := ok__law_written (P := P) (w := w) (base := base) W
  have C_need_book := ok_need_book (P := P) (w := w) (base := base) W
  have C_need_doors := ok_need_doors (P := P) (w := w) (base := base) W
  have C_is_word := ok_is_word (P := P) (w := w) (base := base) W
  have C_is_asking := ok_is_asking (P := P) (w := w) (base := base) W C_is_below C_is_row C_is_word
  have C_is_coming := ok_is_coming (P := P) (w := w) (base := base) W C_is_row C_is_word
  have C_need_pool_deeds := ok_need_pool_deeds (P := P) (w := w) (base := base) W C_is_asking C_is_coming C_is_sequence
  have C_paid := ok_paid (P := P) (w := w) (base := base) W
  have C_covers := ok_covers (P := P) (w := w) (base := base) W
  have C_pool_answer := ok_pool_answer (P := P) (w := w) (base := base) W C_covers
  have C_poured := ok_poured (P := P) (w := w) (base := base) W
  have C_pooled := ok_pooled (P := P) (w := w) (base := base) W C_need_book C_need_doors C_need_pool_deeds C_paid C_pool_answer C_poured
  have C__law_is_written := ok__law_is_written (P := P) (w := w) (base := base) W C__law_same C__law_written C_pooled
  have C__law_plan_end := ok__law_plan_end (P := P) (w := w) (base := base) W C__law_pool_come C__law_pool_move
  have C__law_times_over := ok__law_times_over (P := P) (w := w) (base := base) W
  have C__law_mixed := ok__law_mixed (P := P) (w := w) (base := base) W C__law_take
  have C__law_turned_plan := ok__law_turned_plan (P := P) (w := w) (base := base) W C__law_mixed C__law_take
  have C_is_times := ok_is_times (P := P) (w := w) (base := base) W C_is_integer
  have C_is_line := ok_is_line (P := P) (w := w) (base := base) W C_is_below C_is_row C_is_times C_is_word
  have C_need_plan := ok_need_plan (P := P) (w := w) (base := base) W C_is_between C_is_line C_is_sequence
  have C_fare_before := ok_fare_before (P := P) (w := w) (base := base) W
  have C_fare_row := ok_fare_row (P := P) (w := w) (base := base) W C_fare_before
  have C_nets_of := ok_nets_of (P := P) (w := w) (base := base) W
  have C_net_row := ok_net_row (P := P) (w := w) (base := base) W C_nets_of
  have C_fare_often := ok_fare_often (P := P) (w := w) (base := base) W C_fare_row C_net_row
  have C_plan_end := ok_plan_end (P := P) (w := w) (base := base) W C_covers C_fare_often C_net_row C_poured
  have C_carried := ok_carried (P := P) (w := w) (base := base) W C_need_book C_need_doors C_need_plan C_plan_end
  exact ok_law W C__law_are_doors C__law_book C__law_box C__law_crowd_case C__law_doors C__law_drawn_plan C__law_is_book C__law_is_written C__law_loose C__law_pick C__law_plan_end C__law_same C__law_take C__law_times_over C__law_turned_plan C_carried Fd
end
end Tk

set_option Elab.async false
set_option linter.all false
set_option maxRecDepth 100000
set_option maxHeartbeats 4000000
namespace Tk
open PySem PySem.Spec PyProof.Rows L2
/-! ## == of plain data -/
def atE : D → Bool
  | .non => true
  | .int _ => true
  | .str x => PyData.canLay0 (.str x)
  | _ => false
def Pl : Nat → D → Prop
  | 0, d => atE d = true
  | n + 1, .lst xs => ∀ x ∈ xs, Pl n x
  | n + 1, .tup xs => ∀ x ∈ xs, Pl n x
  | _ + 1, d => atE d = true
theorem Pl_at {n : Nat} {d : D} (h : atE d = true) : Pl n d := by
  cases n with
  | zero => exact h
  | succ n => cases d <;> first | exact h | cases h
theorem toP_at {d : D} (h : atE d = true) : ∃ p, toP d = some p ∧ PyData.canLay0 p = true ∧ PyData.depth p = 0 := by
  cases d with
  | non => exact ⟨.none, by simp [toP], by simp [PyData.canLay0], by simp [PyData.depth]⟩
  | int i => exact ⟨.int i, by simp [toP], by simp [PyData.canLay0], by simp [PyData.depth]⟩
  | str x => exact ⟨.str x, by simp [toP], h, by simp [PyData.depth]⟩
  | _ => cases h
theorem toPs_pl {n : Nat} (ih : ∀ d, Pl n d → ∃ p, toP d = some p ∧ PyData.canLay0 p = true ∧ PyData.depth p ≤ n) : ∀ xs : List D, (∀ x ∈ xs, Pl n x) → ∃ ps, toPs xs = some ps ∧ PyData.canLayAll0 ps = true ∧ PyData.depthAll ps ≤ n
  | [], _ => ⟨[], by simp [toPs], by simp [PyData.canLayAll0], by simp [PyData.depthAll]⟩
  | x :: xs, h => by
    obtain ⟨p, h1, h2, h3⟩ := ih x (h x List.mem_cons_self)
    obtain ⟨ps, h4, h5, h6⟩ := toPs_pl ih xs fun y hy => h y (List.mem_cons_of_mem _ hy)
    exact ⟨p :: ps, by simp [toPs, h1, h4], by simp [PyData.canLayAll0, h2, h5], by simp [PyData.depthAll]; omega⟩
theorem toP_pl : ∀ (n : Nat) (d : D), Pl n d → ∃ p, toP d = some p ∧ PyData.canLay0 p = true ∧ PyData.depth p ≤ n
  | 0, d, h => by
    obtain ⟨p, h1, h2, h3⟩ := toP_at h
    exact ⟨p, h1, h2, by omega⟩
  | n + 1, .lst xs, h => by
    obtain ⟨ps, h1, h2, h3⟩ := toPs_pl (toP_pl n) xs h
    exact ⟨.list ps, by simp [toP, h1], by simp [PyData.canLay0, h2], by simp [PyData.depth]; omega⟩
  | n + 1, .tup xs, h => by
    obtain ⟨ps, h1, h2, h3⟩ := toPs_pl (toP_pl n) xs h
    exact ⟨.tuple ps, by simp [toP, h1], by simp [PyData.canLay0, h2], by simp [PyData.depth]; omega⟩
  | n + 1, .non, h => by
    obtain ⟨p, h1, h2, h3⟩ := toP_at (d := .non) h
    exact ⟨p, h1, h2, by omega⟩
  | n + 1, .int i, h => by
    obtain ⟨p, h1, h2, h3⟩ := toP_at (d := .int i) h
    exact ⟨p, h1, h2, by omega⟩
  | n + 1, .str i, h => by
    obtain ⟨p, h1, h2, h3⟩ := toP_at (d := .str i) h
    exact ⟨p, h1, h2, by omega⟩
theorem eqvs_pl {n m : Nat} (ih : ∀ d e p q, Pl n d → Pl m e → toP d = some p → toP e = some q → (PyData.eqv p q = true ↔ d = e)) : ∀ (xs ys : List D) (ps qs : List PyData), (∀ x ∈ xs, Pl n x) → (∀ y ∈ ys, Pl m y) → toPs xs = some ps → toPs ys = some qs → (PyData.eqvAll ps qs = true ↔ xs = ys)
  | [], [], ps, qs, _, _, h1, h2 => by
    simp [toPs] at h1 h2
    subst h1; subst h2
    simp [PyData.eqvAll]
  | [], y :: ys, ps, qs, _, _, h1, h2 => by
    simp [toPs] at h1
    subst h1
    simp only [toPs] at h2
    split at h2
    · cases h2; simp [PyData.eqvAll]
    · cases h2
  | x :: xs, [], ps, qs, _, _, h1, h2 => by
    simp [toPs] at h2
    subst h2
    simp only [toPs] at h1
    split at h1
    · cases h1; simp [PyData.eqvAll]
    · cases h1
  | x :: xs, y :: ys, ps, qs, hx, hy, h1, h2 => by
    simp only [toPs] at h1 h2
    split at h1
    · rename_i p ps' e1 e2
      split at h2
      · rename_i q qs' e3 e4
        cases h1; cases h2
        simp only [PyData.eqvAll, Bool.and_eq_true, List.cons.injEq]
        rw [ih x y p q (hx x List.mem_cons_self) (hy y List.mem_cons_self) e1 e3, eqvs_pl ih xs ys ps' qs' (fun z hz => hx z (List.mem_cons_of_mem _ hz)) (fun z hz => hy z (List.mem_cons_of_mem _ hz)) e2 e4]
      · cases h2
    · cases h1
theorem eqv_at {d e : D} {p q : PyData} (hd : atE d = true) (he : atE e = true) (h1 : toP d = some p) (h2 : toP e = some q) : PyData.eqv p q = true ↔ d = e := by
  cases d <;> first | (cases hd; done) | (cases e <;> first | (cases he; done) | (simp only [toP] at h1 h2; cases h1; cases h2; simp [PyData.eqv]))
theorem eqv_mix {n : Nat} {d : D} {xs : List D} {p q : PyData} (hd : atE d = true) (h1 : toP d = some p) (h2 : toP (.lst xs) = some q ∨ toP (.tup xs) = some q) : PyData.eqv p q = false ∧ PyData.eqv q p = false := by
  have : (∃ ps, q = .list ps) ∨ ∃ ps, q = .tuple ps := by
    rcases h2 with h2 | h2
    · simp only [toP] at h2
      cases e : toPs xs with
      | none => rw [e] at h2; cases h2
      | some ps => rw [e] at h2; cases h2; exact .inl ⟨_, rfl⟩
    · simp only [toP] at h2
      cases e : toPs xs with
      | none => rw [e] at h2; cases h2
      | some ps => rw [e] at h2; cases h2; exact .inr ⟨_, rfl⟩
  rcases this with ⟨ps, rfl⟩ | ⟨ps, rfl⟩ <;> (cases d <;> first | (cases hd; done) | (simp only [toP] at h1; cases h1; simp [PyData.eqv]))
theorem Pl_inv {n : Nat} {d : D} (h : Pl n d) : atE d = true ∨ (∃ xs k, n = k + 1 ∧ (d = .lst xs ∨ d = .tup xs) ∧ ∀ x ∈ xs, Pl k x) := by
  cases n with
  | zero => exact .inl h
  | succ n =>
    cases d with
    | lst xs => exact .inr ⟨xs, n, rfl, .inl rfl, h⟩
    | tup xs => exact .inr ⟨xs, n, rfl, .inr rfl, h⟩
    | _ => exact .inl h
theorem eqv_pl : ∀ (n m : Nat) (d e : D) (p q : PyData), Pl n d → Pl m e → toP d = some p → toP e = some q → (PyData.eqv p q = true ↔ d = e) := by
  intro n
  induction n with
  | zero =>
    intro m d e p q hd he h1 h2
    rcases Pl_inv he with a | ⟨xs, k, rfl, hx, hk⟩
    · exact eqv_at hd a h1 h2
    · have hd : atE d = true := hd
      have := (eqv_mix (n := 0) (xs := xs) hd h1 (q := q) (by rcases hx with rfl | rfl <;> simp [h2])).1
      rw [this]
      refine ⟨(fun h => nomatch h), fun h => ?_⟩
      subst h
      rcases hx with rfl | rfl <;> cases hd
  | succ n ih =>
    intro m d e p q hd he h1 h2
    rcases Pl_inv hd with a | ⟨ys, k', ek, hy, hk'⟩
    · rcases Pl_inv he with b | ⟨xs, k, rfl, hx, hk⟩
      · exact eqv_at a b h1 h2
      · have := (eqv_mix (n := 0) (xs := xs) a h1 (q := q) (by rcases hx with rfl | rfl <;> simp [h2])).1
        rw [this]
        refine ⟨(fun h => nomatch h), fun h => ?_⟩
        subst h
        rcases hx with rfl | rfl <;> cases a
    · cases ek
      rcases Pl_inv he with b | ⟨xs, k, rfl, hx, hk⟩
      · have := (eqv_mix (n := 0) (xs := ys) b h2 (q := p) (by rcases hy with rfl | rfl <;> simp [h1])).2
        rw [this]
        refine ⟨(fun h => nomatch h), fun h => ?_⟩
        subst h
        rcases hy with rfl | rfl <;> cases b
      · obtain ⟨ps, e1, _, _⟩ := toPs_pl (toP_pl n) ys hk'
        obtain ⟨qs, e2, _, _⟩ := toPs_pl (toP_pl k) xs hk
        have key := eqvs_pl (n := n) (m := k) (ih k) ys xs ps qs hk' hk e1 e2
        rcases hy with rfl | rfl <;> rcases hx with rfl | rfl <;> simp [toP, e1] at h1 <;> simp [toP, e2] at h2 <;> subst h1 <;> subst h2 <;> simp [PyData.eqv, key]
theorem eqD_pl {n m : Nat} {d e : D} (hd : Pl n d) (he : Pl m e) (hn : n ≤ 64) (hm : m ≤ 64) : ∃ k, eqD d e = some k ∧ (k = true ↔ d = e) := by
  obtain ⟨p, h1, h2, h3⟩ := toP_pl n d hd
  obtain ⟨q, h4, h5, h6⟩ := toP_pl m e he
  refine ⟨PyData.eqv p q, ?_, eqv_pl n m d e p q hd he h1 h4⟩
  unfold eqD
  rw [h1, h4]
  exact if_pos ⟨by simp [SeqAt.shaped, h2]; omega, by simp [SeqAt.shaped, h5]; omega⟩
theorem eqD_same {n : Nat} {d : D} (hd : Pl n d) (hn : n ≤ 64) : eqD d d = some true := by
  obtain ⟨k, h1, h2⟩ := eqD_pl hd hd hn hn
  rw [h1, h2.mpr rfl]
theorem eqD_diff {n m : Nat} {d e : D} (hd : Pl n d) (he : Pl m e) (hn : n ≤ 64) (hm : m ≤ 64) (h : d ≠ e) : eqD d e = some false := by
  obtain ⟨k, h1, h2⟩ := eqD_pl hd he hn hm
  rw [h1]
  cases k with
  | false => rfl
  | true => exact absurd (h2.mp rfl) h
theorem neD_same {n : Nat} {d : D} (hd : Pl n d) (hn : n ≤ 64) : neD d d = some false := by
  unfold neD
  rw [eqD_same hd hn]
  rfl
theorem neD_diff {n m : Nat} {d e : D} (hd : Pl n d) (he : Pl m e) (hn : n ≤ 64) (hm : m ≤ 64) (h : d ≠ e) : neD d e = some true := by
  unfold neD
  rw [eqD_diff hd he hn hm h]
  rfl
/-! ## data by places -/
def mI (n : Nat) (h : Nat → D) : List D := (List.range n).map h
def vI (n : Nat) (f : Nat → Int) : List D := mI n fun i => .int (f i)
def tI' (n : Nat) (f : Nat → Int) : D := .tup (vI n f)
@[simp] theorem mI_len {n : Nat} {h : Nat → D} : (mI n h).length = n := by simp [mI]
@[simp] theorem vI_len {n : Nat} {f : Nat → Int} : (vI n f).length = n := mI_len
theorem mI_get {n i : Nat} {h : Nat → D} (hi : i < n) : (mI n h)[i]? = some (h i) := by simp [mI, hi]
theorem atI_mI {n i : Nat} {h : Nat → D} (hi : i < n) : atI (mI n h) (i : Int) = some (h i) := by
  unfold atI ixN
  rw [mI_len, if_pos (by omega), if_pos (by omega)]
  show (mI n h)[((i : Nat) : Int).toNat]? = _
  rw [Int.toNat_natCast, mI_get hi]
theorem atI_vI {n i : Nat} {f : Nat → Int} (hi : i < n) : atI (vI n f) (i : Int) = some (.int (f i)) := atI_mI hi
theorem mI_congr {n : Nat} {g h : Nat → D} (e : ∀ i, i < n → g i = h i) : mI n g = mI n h := by
  unfold mI
  exact List.map_congr_left fun i hi => e i (List.mem_range.mp hi)
theorem vI_congr {n : Nat} {g h : Nat → Int} (e : ∀ i, i < n → g i = h i) : vI n g = vI n h := mI_congr fun i hi => by rw [e i hi]
theorem mI_inj {n : Nat} {g h : Nat → D} (e : mI n g = mI n h) : ∀ i, i < n → g i = h i := fun i hi => by
  have := mI_get (h := g) hi
  rw [e, mI_get hi] at this
  exact (Option.some.inj this).symm
theorem mI_const {n : Nat} {d : D} : mI n (fun _ => d) = List.replicate n d := by
  unfold mI
  rw [List.map_const', List.length_range]
theorem mI_set {n i : Nat} {h : Nat → D} {d : D} : (mI n h).set i d = mI n fun j => if j = i then d else h j := by
  apply List.ext_getElem?
  intro j
  by_cases hj : j < n
  · rw [mI_get hj]
    by_cases e : j = i
    · subst e
      rw [if_pos rfl, List.getElem?_set_self (by simpa using hj)]
    · rw [if_neg e, List.getElem?_set_ne (Ne.symm e), mI_get hj]
  · rw [List.getElem?_eq_none (by simp; omega), List.getElem?_eq_none (by simp; omega)]
theorem mI_of (xs : List D) (d0 : D) : xs = mI xs.length fun i => xs.getD i d0 := by
  apply List.ext_getElem?
  intro j
  by_cases hj : j < xs.length
  · rw [mI_get hj, List.getD_eq_getElem?_getD, List.getElem?_eq_getElem hj]
    rfl
  · rw [List.getElem?_eq_none (by omega), List.getElem?_eq_none (by simp; omega)]
theorem vI_of (xs : List Int) : xs.map D.int = vI xs.length fun i => xs.getD i 0 := by
  apply List.ext_getElem?
  intro j
  by_cases hj : j < xs.length
  · rw [vI, mI_get hj, List.getD_eq_getElem?_getD, List.getElem?_map, List.getElem?_eq_getElem hj]
    rfl
  · rw [List.getElem?_eq_none (by simp; omega), List.getElem?_eq_none (by simp; omega)]
theorem mem_mI {n : Nat} {h : Nat → D} {d : D} (m : d ∈ mI n h) : ∃ i, i < n ∧ d = h i := by
  obtain ⟨i, hi, rfl⟩ := List.mem_map.mp m
  exact ⟨i, List.mem_range.mp hi, rfl⟩
theorem rngD_mI (n : Nat) : rngD 0 n = mI n fun i => .int i := by
  unfold rngD mI
  exact List.map_congr_left fun i _ => by simp
theorem rng1_ok' {n : Nat} (h : n ≤ 16777216) : rng1 [.int (n : Int)] = some (mI n fun i => .int i) := by
  unfold rng1
  simp only
  rw [if_pos (by rw [Int.natAbs_natCast]; exact h), Int.toNat_natCast, rngD_mI]
theorem mI_cons {n : Nat} {h : Nat → D} : mI (n + 1) h = h 0 :: mI n fun i => h (i + 1) := by
  unfold mI
  rw [List.range_succ_eq_map, List.map_cons, List.map_map]
  rfl
theorem mI_tail {n : Nat} {h : Nat → D} : (mI (n + 1) h).drop 1 = mI n fun i => h (i + 1) := by
  rw [mI_cons]
  rfl
theorem zip2_mI {n : Nat} {f g : Nat → D} : rowsD2 (mI n f) (mI n g) = (List.range n).map fun i => [f i, g i] := by
  unfold rowsD2 mI
  rw [List.zipWith_map, List.zipWith_self]
theorem zip3_mI {n : Nat} {f g h : Nat → D} : rowsD3 (mI n f) (mI n g) (mI n h) = (List.range n).map fun i => [f i, g i, h i] := by
  unfold rowsD3 mI
  rw [List.zipWith_map, List.zipWith_self, List.zipWith_map, List.zipWith_self]
  rfl
def MI (n : Nat) (h : Nat → D) (d : D) : Prop := seq? d = some (mI n h)
theorem MI_tup {n : Nat} {h : Nat → D} : MI n h (.tup (mI n h)) := rfl
theorem MI_lst {n : Nat} {h : Nat → D} : MI n h (.lst (mI n h)) := rfl
theorem zipO2_ok {n : Nat} {f g : Nat → D} {x y : D} (h1 : seq? x = some (mI n f)) (h2 : seq? y = some (mI n g)) : zipO2 [x, y] = some (.lst ((mI n fun i => .tup [f i, g i]).map O.sh)) := by
  unfold zipO2
  simp only [h1, h2]
  rw [zip2_mI]
  unfold mI
  rw [List.map_map, List.map_map]
  rfl
theorem zipO3_ok {n : Nat} {f g h : Nat → D} {x y z : D} (h1 : seq? x = some (mI n f)) (h2 : seq? y = some (mI n g)) (h3 : seq? z = some (mI n h)) : zipO3 [x, y, z] = some (.lst ((mI n fun i => .tup [f i, g i, h i]).map O.sh)) := by
  unfold zipO3
  simp only [h1, h2, h3]
  rw [zip3_mI]
  unfold mI
  rw [List.map_map, List.map_map]
  rfl
theorem enumL_mI : ∀ (n k : Nat) (h : Nat → D), enumL k (mI n h) = mI n fun i => .tup [.int ((k + i : Nat) : Int), h i]
  | 0, k, h => rfl
  | n + 1, k, h => by
    rw [mI_cons, mI_cons]
    unfold enumL
    rw [enumL_mI n (k + 1) fun i => h (i + 1)]
    congr 1
    exact mI_congr fun i _ => by rw [show k + 1 + i = k + (i + 1) by omega]
theorem enum1_ok {n : Nat} {h : Nat → D} {x : D} (h1 : seqLT x = some (mI n h)) : enum1 [x] = some (mI n fun i => .tup [.int (i : Int), h i]) := by
  unfold enum1
  simp only
  rw [h1]
  simp only
  rw [enumL_mI]
  simp
theorem bls_mI : ∀ {n : Nat} {b : Nat → Bool}, bls? (mI n fun i => .bl (b i)) = some ((List.range n).map b)
  | 0, b => rfl
  | n + 1, b => by
    rw [mI_cons]
    unfold bls?
    rw [bls_mI, List.range_succ_eq_map, List.map_cons, List.map_map]
    rfl
theorem allD_mI {n : Nat} {b : Nat → Bool} : allD [.lst (mI n fun i => .bl (b i))] = some (.sh (.bl (decide (∀ i, i < n → b i = true)))) := by
  unfold allD
  simp only [bls_mI]
  simp only [Option.some.injEq, O.sh.injEq, D.bl.injEq]
  rw [Bool.eq_iff_iff]
  simp
theorem mulD_tup {d : D} {n : Nat} (h : n ≤ 1000) : mulD (.tup [d]) (.int n) = some (.sh (.tup (mI n fun _ => d))) := by
  unfold mulD
  simp only
  rw [if_pos ⟨List.cons_ne_nil _ _, by rw [Int.natAbs_natCast]; exact h, by simp⟩, Int.toNat_natCast, mI_const]
  congr 3
  induction n with
  | zero => rfl
  | succ n ih => rw [List.replicate_succ, List.flatten_cons, ih (by omega), List.replicate_succ]; rfl
theorem flat_rep {α : Type} {d : α} : ∀ n : Nat, (List.replicate n [d]).flatten = List.replicate n d
  | 0 => rfl
  | n + 1 => by rw [List.replicate_succ, List.flatten_cons, flat_rep n, List.replicate_succ]; rfl
theorem mulD_lst {d : D} {n : Nat} (h : n ≤ 1000) : mulD (.lst [d]) (.int n) = some (.lst ((mI n fun _ => d).map O.sh)) := by
  unfold mulD
  simp only
  rw [if_pos ⟨by rw [Int.natAbs_natCast]; exact Nat.lt_of_le_of_lt h (by decide), by rw [Int.toNat_natCast]; exact Nat.le_trans (by simpa using h) (show 1000 ≤ sizeLine by decide)⟩, Int.toNat_natCast, mI_const, flat_rep]
/-! ## small products -/
def Sm (x : Int) : Prop := x.natAbs < 2 ^ 250
theorem Sm.mul {x y : Int} (h1 : Sm x) (h2 : Sm y) : mulD (.int x) (.int y) = some (.sh (.int (x * y))) :=
  if_pos (wide_mul h1 h2 (by decide) (by decide) (by decide))
theorem Sm.of {x : Int} {n : Nat} (h : x.natAbs < 2 ^ n) (hn : n ≤ 250) : Sm x := Nat.lt_of_lt_of_le h (Nat.pow_le_pow_right (by decide) hn)
@[simp] theorem sAugI_ev {i : Nat} {g : Int → Int → Int} {ix f : Env → Res D} {ρ : Env} : sAugI i g ix f ρ = match slot ρ i with
  | some (.lst _) => sB (ix ρ) fun k r => match k, slot r i with
    | .int k, some (.lst os) => match atI os k with
      | some (.sh (.int x)) => sB (f r) fun y r1 => match y, slot r1 i with
        | .int y, some (.lst os2) => match ixN os2.length k with
          | some j => .nx (r1.set i (some (.lst (os2.set j (.sh (.int (g x y)))))))
          | none => .no
        | _, _ => .no
      | _ => .no
    | _, _ => .no
  | _ => .no := rfl
/-! ## comprehensions over places -/
section
variable {ρ : Env} {b : D → Env → Option Env} {el : Env → Res O} {t : Env → Res Bool}
/-- one name, no test, by places -/
theorem comp_mI {v n : Nat} {h : Nat → D} (g : Nat → O) (hs : okSlot (slot ρ v) = true) (hl : v < ρ.length)
    (he : ∀ i, i < n → el (ρ.set v (some (.sh (h i)))) = .ok (g i) (ρ.set v (some (.sh (h i))))) : compE (gN v) tTrue el [v] (mI n h) ρ = .ok (.lst ((List.range n).map g)) ρ := by
  let G : D → O := fun _ => .sh .non
  unfold compE
  rw [if_pos (by simp [hs]), show wipeE ρ [v] = ρ.set v none from rfl]
  have key : ∀ xs : List Nat, (∀ i ∈ xs, i < n) → compL (gN v) tTrue el [v] (xs.map h) (ρ.set v none) = .ok (xs.map g) (ρ.set v none) := by
    intro xs
    induction xs with
    | nil => intro _; rfl
    | cons x xs ih =>
      intro hx
      have e1 := he x (hx x List.mem_cons_self)
      have e2 := ih fun i hi => hx i (List.mem_cons_of_mem _ hi)
      simp only [List.map_cons]
      unfold compL
      simp only [gN_ev, List.set_set, tTrue_ev, Res.bind_ok, if_true, e1]
      rw [show wipeE (ρ.set v (some (.sh (h x)))) [v] = ρ.set v none by simp [wipeE], e2]
      rfl
  unfold mI
  rw [key _ fun i hi => List.mem_range.mp hi]
  simp only
  rw [show restE ρ [v] (ρ.set v none) = ρ from rest1]
/-- a pair of names -/
theorem wipe2 {v u : Nat} (h : v ≠ u) : wipeE ρ [v, u] = (ρ.set v none).set u none := by
  show (ρ.set u none).set v none = _
  rw [List.set_comm none none h]
theorem wipe3 {v u w : Nat} (h : v ≠ u) (h1 : v ≠ w) (h2 : u ≠ w) : wipeE ρ [v, u, w] = ((ρ.set v none).set u none).set w none := by
  show ((ρ.set w none).set u none).set v none = _
  rw [List.set_comm none none (Ne.symm h2), List.set_comm none none (Ne.symm h1), List.set_comm none none (Ne.symm h)]
theorem rest2 {v u : Nat} (h : v ≠ u) : restE ρ [v, u] (wipeE ρ [v, u]) = ρ := by
  rw [wipe2 h]
  show ((((ρ.set v none).set u none).set v (slot ρ v)).set u (slot ρ u)) = ρ
  rw [List.set_comm none (slot ρ v) (Ne.symm h), List.set_set, List.set_set, set_self_slot, set_self_slot]
theorem rest3 {v u w : Nat} (h : v ≠ u) (h1 : v ≠ w) (h2 : u ≠ w) : restE ρ [v, u, w] (wipeE ρ [v, u, w]) = ρ := by
  rw [wipe3 h h1 h2]
  show ((((((ρ.set v none).set u none).set w none).set v (slot ρ v)).set u (slot ρ u)).set w (slot ρ w)) = ρ
  rw [List.set_comm none (slot ρ v) (Ne.symm h1), List.set_comm none (slot ρ v) (Ne.symm h), List.set_set, set_self_slot, List.set_comm none (slot ρ u) (Ne.symm h2), List.set_set, List.set_set, set_self_slot, set_self_slot]
theorem comp_mI2 {v u n : Nat} {h1 h2 : Nat → D} (g : Nat → O) (hs : okSlot (slot ρ v) = true) (hs2 : okSlot (slot ρ u) = true) (hvu : v ≠ u)
    (he : ∀ i, i < n → el ((ρ.set v (some (.sh (h1 i)))).set u (some (.sh (h2 i)))) = .ok (g i) ((ρ.set v (some (.sh (h1 i)))).set u (some (.sh (h2 i))))) :
    compE (gT (gC (gN v) (gC (gN u) gE))) tTrue el [v, u] (mI n fun i => .tup [h1 i, h2 i]) ρ = .ok (.lst ((List.range n).map g)) ρ := by
  unfold compE
  rw [if_pos (by simp [hs, hs2])]
  have w2 : ∀ (x y : Option O), (((ρ.set v none).set u none).set v x).set u y = (ρ.set v x).set u y := fun x y => by
    rw [List.set_comm none x (Ne.symm hvu), List.set_set, List.set_set]
  have key : ∀ xs : List Nat, (∀ i ∈ xs, i < n) → compL (gT (gC (gN v) (gC (gN u) gE))) tTrue el [v, u] (xs.map fun i => .tup [h1 i, h2 i]) (wipeE ρ [v, u]) = .ok (xs.map g) (wipeE ρ [v, u]) := by
    intro xs
    induction xs with
    | nil => intro _; rfl
    | cons x xs ih =>
      intro hx
      have e1 := he x (hx x List.mem_cons_self)
      have e2 := ih fun i hi => hx i (List.mem_cons_of_mem _ hi)
      simp only [List.map_cons]
      unfold compL
      rw [wipe2 hvu] at e2 ⊢
      simp only [gT_tup, gC_gN, gE_nil, w2, tTrue_ev, Res.bind_ok, if_true, e1]
      rw [show wipeE ((ρ.set v (some (.sh (h1 x)))).set u (some (.sh (h2 x)))) [v, u] = (ρ.set v none).set u none by
        rw [wipe2 hvu]
        show ((((ρ.set v (some (.sh (h1 x)))).set u (some (.sh (h2 x)))).set v none).set u none) = _
        rw [List.set_comm _ none (Ne.symm hvu), List.set_set, List.set_set], e2]
      rfl
  unfold mI
  rw [key _ fun i hi => List.mem_range.mp hi]
  simp only
  rw [rest2 hvu]
theorem gTL_ok {b : List D → Env → Option Env} {d : D} {ds : List D} (h : seqLT d = some ds) : gTL b d ρ = b ds ρ := by
  unfold gTL
  cases d <;> first | (cases h; done) | (cases h; rfl)
theorem comp_mI2L {v u n : Nat} {h1 h2 : Nat → D} {m : Nat → D} (hm : ∀ i, i < n → seqLT (m i) = some [h1 i, h2 i]) (g : Nat → O) (hs : okSlot (slot ρ v) = true) (hs2 : okSlot (slot ρ u) = true) (hvu : v ≠ u)
    (he : ∀ i, i < n → el ((ρ.set v (some (.sh (h1 i)))).set u (some (.sh (h2 i)))) = .ok (g i) ((ρ.set v (some (.sh (h1 i)))).set u (some (.sh (h2 i))))) :
    compE (gTL (gC (gN v) (gC (gN u) gE))) tTrue el [v, u] (mI n m) ρ = .ok (.lst ((List.range n).map g)) ρ := by
  unfold compE
  rw [if_pos (by simp [hs, hs2])]
  have w2 : ∀ (x y : Option O), (((ρ.set v none).set u none).set v x).set u y = (ρ.set v x).set u y := fun x y => by
    rw [List.set_comm none x (Ne.symm hvu), List.set_set, List.set_set]
  have key : ∀ xs : List Nat, (∀ i ∈ xs, i < n) → compL (gTL (gC (gN v) (gC (gN u) gE))) tTrue el [v, u] (xs.map m) (wipeE ρ [v, u]) = .ok (xs.map g) (wipeE ρ [v, u]) := by
    intro xs
    induction xs with
    | nil => intro _; rfl
    | cons x xs ih =>
      intro hx
      have e1 := he x (hx x List.mem_cons_self)
      have e2 := ih fun i hi => hx i (List.mem_cons_of_mem _ hi)
      simp only [List.map_cons]
      unfold compL
      rw [wipe2 hvu] at e2 ⊢
      simp only [gTL_ok (hm x (hx x List.mem_cons_self)), gC_gN, gE_nil, w2, tTrue_ev, Res.bind_ok, if_true, e1]
      rw [show wipeE ((ρ.set v (some (.sh (h1 x)))).set u (some (.sh (h2 x)))) [v, u] = (ρ.set v none).set u none by
        rw [wipe2 hvu]
        show ((((ρ.set v (some (.sh (h1 x)))).set u (some (.sh (h2 x)))).set v none).set u none) = _
        rw [List.set_comm _ none (Ne.symm hvu), List.set_set, List.set_set], e2]
      rfl
  unfold mI
  rw [key _ fun i hi => List.mem_range.mp hi]
  simp only
  rw [rest2 hvu]
theorem comp_mI3 {v u w n : Nat} {h1 h2 h3 : Nat → D} (g : Nat → O) (hs : okSlot (slot ρ v) = true) (hs2 : okSlot (slot ρ u) = true) (hs3 : okSlot (slot ρ w) = true) (hvu : v ≠ u) (hvw : v ≠ w) (huw : u ≠ w)
    (he : ∀ i, i < n → el (((ρ.set v (some (.sh (h1 i)))).set u (some (.sh (h2 i)))).set w (some (.sh (h3 i)))) = .ok (g i) (((ρ.set v (some (.sh (h1 i)))).set u (some (.sh (h2 i)))).set w (some (.sh (h3 i))))) :
    compE (gT (gC (gN v) (gC (gN u) (gC (gN w) gE)))) tTrue el [v, u, w] (mI n fun i => .tup [h1 i, h2 i, h3 i]) ρ = .ok (.lst ((List.range n).map g)) ρ := by
  unfold compE
  rw [if_pos (by simp [hs, hs2, hs3])]
  have w3 : ∀ (r : Env) (x y z x' y' z' : Option O), (((((r.set v x').set u y').set w z').set v x).set u y).set w z = ((r.set v x).set u y).set w z := fun r x y z x' y' z' => by
    rw [List.set_comm z' x (Ne.symm hvw), List.set_comm y' x (Ne.symm hvu), List.set_set, List.set_comm z' y (Ne.symm huw), List.set_set, List.set_set]
  have key : ∀ xs : List Nat, (∀ i ∈ xs, i < n) → compL (gT (gC (gN v) (gC (gN u) (gC (gN w) gE)))) tTrue el [v, u, w] (xs.map fun i => .tup [h1 i, h2 i, h3 i]) (wipeE ρ [v, u, w]) = .ok (xs.map g) (wipeE ρ [v, u, w]) := by
    intro xs
    induction xs with
    | nil => intro _; rfl
    | cons x xs ih =>
      intro hx
      have e1 := he x (hx x List.mem_cons_self)
      have e2 := ih fun i hi => hx i (List.mem_cons_of_mem _ hi)
      simp only [List.map_cons]
      unfold compL
      rw [wipe3 hvu hvw huw] at e2 ⊢
      simp only [gT_tup, gC_gN, gE_nil, w3, tTrue_ev, Res.bind_ok, if_true, e1]
      rw [show wipeE (((ρ.set v (some (.sh (h1 x)))).set u (some (.sh (h2 x)))).set w (some (.sh (h3 x)))) [v, u, w] = ((ρ.set v none).set u none).set w none from (wipe3 hvu hvw huw).trans (w3 ρ none none none _ _ _), e2]
      rfl
  unfold mI
  rw [key _ fun i hi => List.mem_range.mp hi]
  simp only
  rw [rest3 hvu hvw huw]
end
@[simp] theorem allD_map {n : Nat} {b : Nat → Bool} : allD [.lst (List.map (fun i => D.bl (b i)) (List.range n))] = some (.sh (.bl (decide (∀ i, i < n → b i = true)))) := allD_mI
theorem frzs_rng {n : Nat} {g : Nat → D} : frzs ((List.range n).map fun i => O.sh (g i)) = mI n g := by
  rw [frzs_map, List.map_map]
  rfl
end Tk

set_option Elab.async false
set_option linter.all false
set_option maxRecDepth 100000
set_option maxHeartbeats 4000000
namespace Tk
open PySem PySem.Spec PyProof.Rows L2
/-! ## small words -/
theorem is_integer_int {i : Int} : Φ_is_integer [.sh (.int i)] = .ok (.sh (.bl true)) [.sh (.int i)] := by
  refine mk0_rt rfl (r := [some (.sh (.int i))]) ?_ rfl
  simp [b_is_integer, initE]
theorem is_below_ev {i n : Int} : Φ_is_below [.sh (.int i), .sh (.int n)] = .ok (.sh (.bl (decide (0 ≤ i) && decide (i < n)))) [.sh (.int i), .sh (.int n)] := by
  refine mk0_rt rfl (r := [some (.sh (.int i)), some (.sh (.int n))]) ?_ rfl
  simp [b_is_below, initE, is_integer_int]
  by_cases h : 0 ≤ i <;> simp [h]
theorem is_between_ev {i l h : Int} : Φ_is_between [.sh (.int i), .sh (.int l), .sh (.int h)] = .ok (.sh (.bl (decide (l ≤ i) && decide (i ≤ h)))) [.sh (.int i), .sh (.int l), .sh (.int h)] := by
  refine mk0_rt rfl (r := [some (.sh (.int i)), some (.sh (.int l)), some (.sh (.int h))]) ?_ rfl
  simp [b_is_between, initE, is_integer_int]
  by_cases h : l ≤ i <;> simp [h]
theorem is_sequence_lst {xs : List D} : Φ_is_sequence [.sh (.lst xs)] = .ok (.sh (.bl true)) [.sh (.lst xs)] := by
  refine mk0_rt rfl (r := [some (.sh (.lst xs))]) ?_ rfl
  simp [b_is_sequence, initE]
theorem is_sequence_tup {xs : List D} : Φ_is_sequence [.sh (.tup xs)] = .ok (.sh (.bl true)) [.sh (.tup xs)] := by
  refine mk0_rt rfl (r := [some (.sh (.tup xs))]) ?_ rfl
  simp [b_is_sequence, initE]
/-- a list or a tuple of these -/
def Sq (xs : List D) (d : D) : Prop := d = .lst xs ∨ d = .tup xs
theorem is_sequence_sq {xs : List D} {d : D} (h : Sq xs d) : Φ_is_sequence [.sh d] = .ok (.sh (.bl true)) [.sh d] := by
  rcases h with rfl | rfl
  · exact is_sequence_lst
  · exact is_sequence_tup
theorem len_sq {xs : List D} {d : D} (h : Sq xs d) : lenD [d] = some (.sh (.int xs.length)) := by
  rcases h with rfl | rfl <;> rfl
theorem seqd_sq {xs : List D} {d : D} (h : Sq xs d) : seq? d = some xs := by
  rcases h with rfl | rfl <;> rfl
theorem seqLT_sq {xs : List D} {d : D} (h : Sq xs d) : seqLT d = some xs := by
  rcases h with rfl | rfl <;> rfl
theorem ix_sq {xs : List D} {d : D} (h : Sq xs d) (i : Int) : ixD d (.int i) = (atI xs i).map O.sh := by
  rcases h with rfl | rfl <;> rfl
theorem tupOf_sq {xs : List D} {d : D} (h : Sq xs d) : tupOf [d] = some (.sh (.tup xs)) := by
  rcases h with rfl | rfl <;> rfl
theorem is_row_ev {xs : List D} {d : D} {n : Int} (h : Sq xs d) : Φ_is_row [.sh d, .sh (.int n)] = .ok (.sh (.bl ((xs.length : Int) == n))) [.sh d, .sh (.int n)] := by
  refine mk0_rt rfl (r := [some (.sh d), some (.sh (.int n))]) ?_ rfl
  simp [b_is_row, initE, is_sequence_sq h, len_sq h]
theorem law_is_int_int {i : Int} : Φ__law_is_int [.sh (.int i)] = .ok (.sh (.bl true)) [.sh (.int i)] := by
  refine mk0_rt rfl (r := [some (.sh (.int i))]) ?_ rfl
  simp [b__law_is_int, initE]
/-! ## the box -/
def bx (cells : List Int) (bl p : Int) : O := .lst [.sh (.lst (cells.map D.int)), .sh (.int bl), .sh (.int p)]
def IsBox (o : O) : Prop := ∃ (cells : List Int) (bl p : Int), o = bx cells bl p ∧ 0 ≤ p ∧ 0 ≤ bl ∧ bl < 2147483629 ∧ ∀ c ∈ cells, 0 ≤ c
theorem atI_0 {α : Type} {a : α} {xs : List α} : atI (a :: xs) 0 = some a := by
  unfold atI ixN
  rw [if_pos (by omega), if_pos (by simp)]
  rfl
theorem atI_nat' {α : Type} {xs : List α} {i : Nat} (h : i < xs.length) : atI xs (i : Int) = some xs[i] := by
  unfold atI ixN
  rw [if_pos (by omega), if_pos (by omega)]
  show xs[((i : Nat) : Int).toNat]? = _
  rw [Int.toNat_natCast, List.getElem?_eq_getElem h]
theorem ixN_nat {n i : Nat} (h : i < n) : ixN n (i : Int) = some i := by
  unfold ixN
  rw [if_pos (by omega), if_pos (by omega), Int.toNat_natCast]
@[simp] theorem ixN_3_0 : ixN 3 0 = some 0 := by decide
@[simp] theorem ixN_3_1 : ixN 3 1 = some 1 := by decide
@[simp] theorem ixN_3_2 : ixN 3 2 = some 2 := by decide
@[simp] theorem atI_3_0 {α : Type} {a b c : α} : atI [a, b, c] 0 = some a := rfl
@[simp] theorem atI_3_1 {α : Type} {a b c : α} : atI [a, b, c] 1 = some b := rfl
@[simp] theorem atI_3_2 {α : Type} {a b c : α} : atI [a, b, c] 2 = some c := rfl
theorem sum_lt {a b n : Int} : a + b < n ↔ a < n - b := by omega
theorem mulD_ok {i j : Int} (h : CMulW i j) : mulD (.int i) (.int j) = some (.sh (.int (i * j))) := if_pos h
theorem modD_ok {i j : Int} (h : 0 < j) : iiD modC (· % ·) (.int i) (.int j) = some (.sh (.int (i % j))) := by
  unfold iiD
  exact if_pos (by simp [modC, h])
theorem divD_ok {i j : Int} (h : 0 < j ∧ j.natAbs.log2 < 9000) : iiD divC (· / ·) (.int i) (.int j) = some (.sh (.int (i / j))) := by
  unfold iiD
  exact if_pos (by simpa [divC] using h)
theorem powD_ok {i j : Int} (h : 0 ≤ j ∧ j ≤ 1000000 ∧ i.natAbs < 2 ^ 64) : iiD powC (fun i j => i ^ j.toNat) (.int i) (.int j) = some (.sh (.int (i ^ j.toNat))) := by
  unfold iiD
  exact if_pos (by simpa [powC] using h)
theorem mul_small {i j : Int} {a b : Nat} (h0 : 0 ≤ i) (hi : i < 2 ^ a) (hj0 : 0 ≤ j) (hj : j < 2 ^ b) (ha : 0 < a) (hb : 0 < b) (h : a + b ≤ 1000000) : CMulW i j :=
  wide_mul (a := a) (b := b) (by have : ((i.natAbs : Nat) : Int) < ((2 ^ a : Nat) : Int) := by rw [Int.natAbs_of_nonneg h0]; push_cast; exact hi
                                 exact_mod_cast this) (by have : ((j.natAbs : Nat) : Int) < ((2 ^ b : Nat) : Int) := by rw [Int.natAbs_of_nonneg hj0]; push_cast; exact hj
                                                          exact_mod_cast this) ha hb h
theorem take_loop {cells : List Int} {p many : Int} (n : Nat) (hn : n ≤ 6) {bl : Int} (hb0 : 0 ≤ bl) (hb1 : bl < 2147483629) : ∃ r, forL (gN 3) lb__law_take_0 (rngD 0 n) [some (bx cells bl p), some (.sh (.int many)), some (.sh (.int 0)), none] = .nx r ∧
    ∃ bl' raw x, r = [some (bx cells bl' p), some (.sh (.int many)), some (.sh (.int raw)), x] ∧ 0 ≤ bl' ∧ bl' < 2147483629 ∧ 0 ≤ raw := by
  have H := forL_inv (b := gN 3) (body := lb__law_take_0) (fun i ρ => ∃ bl' raw x, ρ = [some (bx cells bl' p), some (.sh (.int many)), some (.sh (.int raw)), x] ∧ 0 ≤ bl' ∧ bl' < 2147483629 ∧ 0 ≤ raw ∧ raw < 2 ^ (31 * i)) (rngD 0 n) 0
    (ρ := [some (bx cells bl p), some (.sh (.int many)), some (.sh (.int 0)), none]) ⟨bl, 0, none, rfl, hb0, hb1, by omega, by decide⟩ (by
      rintro i d ρ hd ⟨bl', raw, x, rfl, h1, h2, h3, h4⟩
      rw [Nat.zero_add] at h4 ⊢
      have hi : i < n := by
        have := (List.getElem?_eq_some_iff.mp hd).1
        simpa [rngD] using this
      have hm1 : CMulW bl' 16807 := mul_small (a := 31) (b := 15) h1 (by omega) (by omega) (by decide) (by decide) (by decide) (by decide)
      have hm2 : CMulW raw 2147483629 := mul_small (a := 31 * i + 1) (b := 31) h3 (by rw [Int.pow_succ]; omega) (by omega) (by decide) (by omega) (by decide) (by omega)
      have hb : 0 ≤ (bl' * 16807 + 41) % 2147483629 ∧ (bl' * 16807 + 41) % 2147483629 < 2147483629 := ⟨Int.emod_nonneg _ (by decide), Int.emod_lt_of_pos _ (by decide)⟩
      refine ⟨_, _, rfl, .inl (by simp [lb__law_take_0, bx, mulD_ok hm1, mulD_ok hm2, modD_ok]), (bl' * 16807 + 41) % 2147483629, raw * 2147483629 + (bl' * 16807 + 41) % 2147483629, some (.sh d), rfl, hb.1, hb.2, by omega, ?_⟩
      have e : (2 : Int) ^ (31 * (i + 1)) = 2147483648 * 2 ^ (31 * i) := by
        rw [show 31 * (i + 1) = 31 * i + 31 by omega, Int.pow_add]
        omega
      rw [e]
      omega)
  obtain ⟨r, e, bl', raw, x, e1, e2, e3, e4, e5⟩ := H
  exact ⟨r, e, bl', raw, x, e1, e2, e3, e4⟩
theorem take_ev {b : O} {many : Int} (hb : IsBox b) (hm : 0 < many) : ∃ v b', 0 ≤ v ∧ v < many ∧ IsBox b' ∧ Φ__law_take [b, .sh (.int many)] = .ok (.sh (.int v)) [b', .sh (.int many)] := by
  obtain ⟨cells, bl, p, rfl, hp, hb0, hb1, hc⟩ := hb
  by_cases h : p + 1 ≤ (cells.length : Int) ∧ many < 2147483629
  · have hlt : p.toNat < cells.length := by omega
    refine ⟨cells[p.toNat] % many, bx cells bl (p + 1), Int.emod_nonneg _ (by omega), Int.emod_lt_of_pos _ hm, ⟨cells, bl, p + 1, rfl, by omega, hb0, hb1, hc⟩, ?_⟩
    refine mk0_rt rfl (r := [some (bx cells bl (p + 1)), some (.sh (.int many)), none, none]) ?_ rfl
    have e : atI (cells.map D.int) p = some (.int cells[p.toNat]) := by
      have := atI_nat' (xs := cells.map D.int) (i := p.toNat) (by simpa using hlt)
      rw [Int.toNat_of_nonneg hp] at this
      rw [this]
      simp
    simp [b__law_take, initE, bx, h.1, h.2, modD_ok hm, e]
  · have go : ∀ n : Nat, n ≤ 6 → (if many < 1000000000 then (2 : Int) else 6) = n → ∃ v b', 0 ≤ v ∧ v < many ∧ IsBox b' ∧ Φ__law_take [bx cells bl p, .sh (.int many)] = .ok (.sh (.int v)) [b', .sh (.int many)] := by
      intro n hn en
      obtain ⟨r, e, bl', raw, x, rfl, h1, h2, h3⟩ := take_loop (cells := cells) (p := p + 1) (many := many) n hn hb0 hb1
      refine ⟨raw / 97 % many, bx cells bl' (p + 1), Int.emod_nonneg _ (by omega), Int.emod_lt_of_pos _ hm, ⟨cells, bl', p + 1, rfl, by omega, h1, h2, hc⟩, ?_⟩
      refine mk0_rt rfl (r := [some (bx cells bl' (p + 1)), some (.sh (.int many)), some (.sh (.int raw)), x]) ?_ rfl
      have hd : iiD divC (· / ·) (.int raw) (.int 97) = some (.sh (.int (raw / 97))) := divD_ok ⟨by decide, by decide⟩
      unfold bx at e
      by_cases h4 : p + 1 ≤ (cells.length : Int)
      · have h5 : ¬ many < 2147483629 := fun z => h ⟨h4, z⟩
        have h6 : ¬ many < 1000000000 := by omega
        simp [h6] at en
        have en2 : n = 6 := by omega
        subst en2
        simp [b__law_take, initE, bx, h4, h5, h6, powD_ok, rng1, modD_ok hm, hd, e]
      · by_cases h6 : many < 1000000000
        · simp [h6] at en
          have en2 : n = 2 := by omega
          subst en2
          simp [b__law_take, initE, bx, h4, h6, powD_ok, rng1, modD_ok hm, hd, e]
        · simp [h6] at en
          have en2 : n = 6 := by omega
          subst en2
          simp [b__law_take, initE, bx, h4, h6, powD_ok, rng1, modD_ok hm, hd, e]
    by_cases hs : many < 1000000000
    · exact go 2 (by omega) (by simp [hs])
    · exact go 6 (by omega) (by simp [hs])
theorem atI_mem {α : Type} {xs : List α} {i : Int} (h0 : 0 ≤ i) (h1 : i < xs.length) : ∃ x, x ∈ xs ∧ atI xs i = some x := by
  have h : i.toNat < xs.length := by omega
  refine ⟨xs[i.toNat], List.getElem_mem h, ?_⟩
  have := atI_nat' h
  rw [Int.toNat_of_nonneg h0] at this
  exact this
theorem pick_ev {b : O} {xs : List D} (hb : IsBox b) (hx : xs ≠ []) : ∃ x b', x ∈ xs ∧ IsBox b' ∧ Φ__law_pick [b, .sh (.lst xs)] = .ok (.sh x) [b', .sh (.lst xs)] := by
  have hl : 0 < (xs.length : Int) := by
    have := List.length_pos_iff.mpr hx
    omega
  obtain ⟨v, b', h0, h1, hb', e⟩ := take_ev hb hl
  obtain ⟨x, hm, ex⟩ := atI_mem h0 h1
  refine ⟨x, b', hm, hb', ?_⟩
  refine mk0_rt rfl (r := [some b', some (.sh (.lst xs))]) ?_ rfl
  simp [b__law_pick, initE, e, ex]
theorem number_ev {b : O} {most : Int} (hb : IsBox b) (hm : 0 ≤ most) : ∃ v b', 0 ≤ v ∧ v ≤ most + 1 ∧ IsBox b' ∧ Φ__law_number [b, .sh (.int most)] = .ok (.sh (.int v)) [b', .sh (.int most)] := by
  obtain ⟨w, b1, h0, h1, hb1, e1⟩ := take_ev (many := most + 1) hb (by omega)
  obtain ⟨x, b2, hx, hb2, e2⟩ := pick_ev (xs := [.int 0, .int 0, .int 1, .int 1, .int w]) hb1 (List.cons_ne_nil _ _)
  obtain ⟨v, rfl, hv0, hv1⟩ : ∃ v, x = .int v ∧ 0 ≤ v ∧ v ≤ most + 1 := by
    simp at hx
    rcases hx with rfl | rfl | rfl
    · exact ⟨0, rfl, by omega, by omega⟩
    · exact ⟨1, rfl, by omega, by omega⟩
    · exact ⟨w, rfl, by omega, by omega⟩
  refine ⟨v, b2, hv0, hv1, hb2, ?_⟩
  refine mk0_rt rfl (r := [some b2, some (.sh (.int most))]) ?_ rfl
  simp [b__law_number, initE, e1, e2]
/-! ## _law_box -/
theorem law_box_ev {ns : List Int} : ∃ b, IsBox b ∧ Φ__law_box [.sh (.scr (ns.map D.int))] = .ok b [.sh (.scr (ns.map D.int))] := by
  have hcut : ∃ ms : List Int, cutD (ns.map D.int) none (some 60) = ms.map D.int := by
    unfold cutD
    rw [← List.map_drop, ← List.map_take]
    exact ⟨_, rfl⟩
  obtain ⟨ms, hms⟩ := hcut
  let cs : List Int := ms.map fun c => (if c < 0 then -c else c) % 2147483629
  have hcs : ∀ c ∈ cs, 0 ≤ c ∧ c < 2147483629 := by
    intro c hc
    obtain ⟨a, _, rfl⟩ := List.mem_map.mp hc
    exact ⟨Int.emod_nonneg _ (by decide), Int.emod_lt_of_pos _ (by decide)⟩
  have hf : (ms.map D.int).map (fun d => match d with | .int c => O.sh (.int ((if c < 0 then -c else c) % 2147483629)) | _ => O.sh .non) = (cs.map D.int).map O.sh := by
    simp only [cs, List.map_map]
    rfl
  have loop : ∃ r, forL (gN 3) lb__law_box_0
      (cs.map D.int) [some (.sh (.scr (ns.map D.int))), some (.sh (.lst (cs.map D.int))), some (.sh (.int 90007)), none] = .nx r ∧ ∃ bl x, r = [some (.sh (.scr (ns.map D.int))), some (.sh (.lst (cs.map D.int))), some (.sh (.int bl)), x] ∧ 0 ≤ bl ∧ bl < 2147483629 := by
    refine forL_inv (fun _ r => ∃ bl x, r = [some (.sh (.scr (ns.map D.int))), some (.sh (.lst (cs.map D.int))), some (.sh (.int bl)), x] ∧ 0 ≤ bl ∧ bl < 2147483629) _ 0 ⟨90007, none, rfl, by decide, by decide⟩ ?_
    rintro j d ρ hd ⟨bl, x, rfl, h0, h1⟩
    rw [List.getElem?_map] at hd
    cases hj : cs[j]? with
    | none => rw [hj] at hd; cases hd
    | some c =>
      rw [hj] at hd
      cases hd
      have hc := hcs c (List.mem_of_getElem? hj)
      have m1 : CMulW bl 16807 := mul_small (a := 31) (b := 15) h0 (by omega) (by omega) (by decide) (by decide) (by decide) (by decide)
      have m2 : CMulW c 7 := mul_small (a := 31) (b := 3) hc.1 (by omega) (by omega) (by decide) (by decide) (by decide) (by decide)
      exact ⟨_, _, rfl, .inl (by simp [lb__law_box_0, mulD_ok m1, mulD_ok m2, modD_ok]), (bl * 16807 + c * 7 + 83) % 2147483629, some (.sh (.int c)), rfl, Int.emod_nonneg _ (by decide), Int.emod_lt_of_pos _ (by decide)⟩
  obtain ⟨r, e, bl, x, rfl, h0, h1⟩ := loop
  refine ⟨bx cs bl 0, ⟨cs, bl, 0, rfl, by omega, h0, h1, fun c hc => (hcs c hc).1⟩, ?_⟩
  refine mk0_rt rfl (r := [some (.sh (.scr (ns.map D.int))), some (.sh (.lst (cs.map D.int))), some (.sh (.int bl)), x]) ?_ rfl
  simp [b__law_box, initE, slD, hms]
  rw [comp_map (fun d => match d with | .int c => O.sh (.int ((if c < 0 then -c else c) % 2147483629)) | _ => O.sh .non)]
  · rw [hf]
    simp [e, bx]
  · rfl
  · intro d hd
    obtain ⟨a, _, rfl⟩ := List.mem_map.mp hd
    exact ⟨_, rfl, by simp [ce__law_box_0, absD, modD_ok], rfl⟩
/-! ## _law_loose, _law_same -/
def atomD : D → Bool
  | .non => true
  | .int _ => true
  | .str x => SeqAt.shaped (.str x)
  | _ => false
def dp : Nat → D → Prop
  | 0, _ => False
  | n + 1, .tup xs => xs.length ≤ 1000 ∧ ∀ x ∈ xs, dp n x
  | _ + 1, d => atomD d = true
def LsN : Nat → D → D → Prop
  | 0, _, _ => False
  | n + 1, .tup xs, d' => ∃ ys, Sq ys d' ∧ Fa2 (LsN n) xs ys
  | _ + 1, d, d' => d' = d
theorem Fa2.sh {P : D → D → Prop} : ∀ {xs : List D} {os : List O}, Fa2 (fun d o => ∃ d', o = O.sh d' ∧ P d d') xs os → ∃ ys, os = ys.map O.sh ∧ Fa2 P xs ys
  | _, _, .nil => ⟨[], rfl, .nil⟩
  | _, _, .cons ⟨d', e, p⟩ t => by
    obtain ⟨ys, e2, f⟩ := Fa2.sh t
    exact ⟨d' :: ys, by rw [e, e2]; rfl, .cons p f⟩
theorem Fa2.length {α β : Type} {R : α → β → Prop} : ∀ {xs : List α} {ys : List β}, Fa2 R xs ys → xs.length = ys.length
  | _, _, .nil => rfl
  | _, _, .cons _ t => by rw [List.length_cons, List.length_cons, t.length]
theorem loose_ev : ∀ (n : Nat) (d : D) {b : O}, dp n d → IsBox b → ∃ d' b', IsBox b' ∧ LsN n d d' ∧ Φ__law_loose n [b, .sh d] = .ok (.sh d') [b', .sh d]
  | 0, d, b, h, _ => h.elim
  | n + 1, .tup xs, b, h, hb => by
    have h : ∀ x ∈ xs, dp n x := h.2
    obtain ⟨os, r, e, ⟨b1, hb1, rfl⟩, f⟩ := comp_rel (b := gN 3) (el := ce__law_loose_0 (Φ__law_loose n)) (v := 3) (ρ := [some b, some (.sh (.tup xs)), none, none])
      (fun r => ∃ b', IsBox b' ∧ r = [some b', some (.sh (.tup xs)), none, none]) (fun d o => ∃ d', o = O.sh d' ∧ LsN n d d') (ds := xs) rfl ⟨b, hb, rfl⟩ (by
        rintro d hd ρ ⟨b', hb', rfl⟩
        obtain ⟨d', b2, hb2, hl, e⟩ := loose_ev n d (h d hd) hb'
        exact ⟨_, .sh d', [some b2, some (.sh (.tup xs)), none, some (.sh d)], rfl, by simp [ce__law_loose_0, e], ⟨b2, hb2, rfl⟩, d', rfl, hl⟩)
    obtain ⟨ys, rfl, f2⟩ := Fa2.sh f
    obtain ⟨v, b2, h0, h1, hb2, e2⟩ := take_ev (many := 2) hb1 (by decide)
    by_cases hv : v = 0
    · refine ⟨.lst ys, b2, hb2, ⟨ys, .inl rfl, f2⟩, ?_⟩
      refine mk0_rt rfl (r := [some b2, some (.sh (.tup xs)), some (.sh (.lst ys)), none]) ?_ rfl
      simp at e
      simp [b__law_loose, initE, e, e2, hv]
    · refine ⟨.tup ys, b2, hb2, ⟨ys, .inr rfl, f2⟩, ?_⟩
      refine mk0_rt rfl (r := [some b2, some (.sh (.tup xs)), some (.sh (.lst ys)), none]) ?_ rfl
      simp at e
      simp [b__law_loose, initE, e, e2, hv]
  | n + 1, .non, b, h, hb => ⟨.non, b, hb, rfl, by
      refine mk0_rt rfl (r := [some b, some (.sh .non), none, none]) ?_ rfl
      simp [b__law_loose, initE]⟩
  | n + 1, .int i, b, h, hb => ⟨.int i, b, hb, rfl, by
      refine mk0_rt rfl (r := [some b, some (.sh (.int i)), none, none]) ?_ rfl
      simp [b__law_loose, initE]⟩
  | n + 1, .str i, b, h, hb => ⟨.str i, b, hb, rfl, by
      refine mk0_rt rfl (r := [some b, some (.sh (.str i)), none, none]) ?_ rfl
      simp [b__law_loose, initE]⟩
  | n + 1, .bl i, b, h, hb => by cases h
  | n + 1, .lst i, b, h, hb => by cases h
  | n + 1, .ins _ _, b, h, hb => by cases h
  | n + 1, .scr _, b, h, hb => by cases h
theorem rng1_ok {n : Nat} (h : n ≤ 16777216) : rng1 [.int (n : Int)] = some (rngD 0 n) := by
  unfold rng1
  simp only
  rw [if_pos (by rw [Int.natAbs_natCast]; exact h), Int.toNat_natCast]
theorem mem_rng {n : Nat} {d : D} (h : d ∈ rngD 0 n) : ∃ i : Nat, i < n ∧ d = .int (i : Int) := by
  unfold rngD at h
  obtain ⟨i, hi, rfl⟩ := List.mem_map.mp h
  exact ⟨i, List.mem_range.mp hi, by simp⟩
theorem rng_map {α : Type} (n : Nat) (f : D → α) : (rngD 0 n).map f = (List.range n).map fun i : Nat => f (.int (i : Int)) := by
  unfold rngD
  rw [List.map_map]
  refine List.map_congr_left fun i _ => ?_
  show f (.int (0 + (i : Int))) = _
  rw [Int.zero_add]
theorem atI_map {α β : Type} (f : α → β) {xs : List α} (i : Int) : atI (xs.map f) i = (atI xs i).map f := by
  unfold atI
  rw [List.length_map]
  cases ixN xs.length i with
  | none => rfl
  | some j => simp
@[simp] theorem eqD_nil : eqD (.lst []) (.lst []) = some true := by decide +kernel
theorem eqD_str {x : Str} (h : SeqAt.shaped (.str x) = true) : eqD (.str x) (.str x) = some true := by
  unfold eqD
  simp only [toP]
  rw [if_pos ⟨h, h⟩]
  unfold PyData.eqv
  simp
theorem filter_false {α : Type} : ∀ xs : List α, xs.filter (fun _ => false) = []
  | [] => rfl
  | x :: xs => by simp
theorem same_ev : ∀ (n : Nat) (d : D), dp n d → Φ__law_same n [.sh d, .sh d] = .ok (.sh (.bl true)) [.sh d, .sh d]
  | 0, d, h => h.elim
  | n + 1, .tup xs, h => by
    obtain ⟨hl, h⟩ : xs.length ≤ 1000 ∧ ∀ x ∈ xs, dp n x := h
    refine mk0_rt rfl (r := [some (.sh (.tup xs)), some (.sh (.tup xs)), none]) ?_ rfl
    simp [b__law_same, initE, rng1_ok (show xs.length ≤ 16777216 by omega)]
    rw [comp_pure (fun _ => false) (fun d => .sh d)]
    · simp [filter_false]
    · rfl
    · intro d hd
      obtain ⟨i, hi, rfl⟩ := mem_rng hd
      refine ⟨_, rfl, ?_, (fun z => nomatch z), rfl⟩
      have e := same_ev n xs[i] (h _ (List.getElem_mem hi))
      simp [atI_nat' hi, e]
  | n + 1, .non, h => by
    refine mk0_rt rfl (r := [some (.sh .non), some (.sh .non), none]) ?_ rfl
    simp [b__law_same, initE]
  | n + 1, .int i, h => by
    refine mk0_rt rfl (r := [some (.sh (.int i)), some (.sh (.int i)), none]) ?_ rfl
    simp [b__law_same, initE, law_is_int_int]
  | n + 1, .str x, h => by
    refine mk0_rt rfl (r := [some (.sh (.str x)), some (.sh (.str x)), none]) ?_ rfl
    have e := eqD_str h
    simp [b__law_same, initE, e]
  | n + 1, .bl i, h => by cases h
  | n + 1, .lst i, h => by cases h
  | n + 1, .ins _ _, h => by cases h
  | n + 1, .scr _, h => by cases h
/-! ## the case drawn -/
def eOp : Option Nat → D
  | none => .non
  | some n => .int (n : Int)
def eRow (r : List (Option Nat)) : D := .tup (r.map eOp)
def eRows (rs : List (List (Option Nat))) : D := .tup (rs.map eRow)
def eIs (l : List Int) : D := .tup (l.map D.int)
def eVi (v : List Int × List Int) : D := .tup [eIs v.1, eIs v.2]
def eVis (vs : List (List Int × List Int)) : D := .tup (vs.map eVi)
theorem Fa2.enc {α β : Type} {enc : α → D} {P : α → Prop} : ∀ {ds : List β} {os : List O}, Fa2 (fun _ o => ∃ x, o = O.sh (enc x) ∧ P x) ds os → ∃ r : List α, os = (r.map enc).map O.sh ∧ r.length = ds.length ∧ ∀ x ∈ r, P x
  | _, _, .nil => ⟨[], rfl, rfl, fun _ h => nomatch h⟩
  | _, _, .cons ⟨x, e, p⟩ t => by
    obtain ⟨r, e2, l, q⟩ := Fa2.enc t
    refine ⟨x :: r, by rw [e, e2]; rfl, by rw [List.length_cons, List.length_cons, l], fun y hy => ?_⟩
    rcases List.mem_cons.mp hy with rfl | hy
    · exact p
    · exact q y hy
theorem rng_len' (n : Nat) : (rngD 0 n).length = n := by simp [rngD]
theorem rng_get {n i : Nat} {d : D} (h : (rngD 0 n)[i]? = some d) : i < n ∧ d = .int (i : Int) := by
  unfold rngD at h
  rw [List.getElem?_map] at h
  cases e : (List.range n)[i]? with
  | none => rw [e] at h; cases h
  | some j =>
    rw [e] at h
    cases h
    have h1 := (List.getElem?_eq_some_iff.mp e).1
    rw [List.length_range] at h1
    rw [List.getElem?_range h1] at e
    cases e
    exact ⟨h1, by simp⟩
def RowOk (S K : Nat) (r : List (Option Nat)) : Prop := r.length = K ∧ ∀ n, some n ∈ r → n < S
theorem rows_ev {b : O} {S K : Nat} (hb : IsBox b) (hS : 0 < S) (hS2 : S ≤ 1000) (hK : K ≤ 1000) : ∃ rs b', IsBox b' ∧ rs.length = S ∧ (∀ r ∈ rs, RowOk S K r) ∧
    Φ__law_rows [b, .sh (.int K), .sh (.int S)] = .ok (.sh (eRows rs)) [b', .sh (.int K), .sh (.int S)] := by
  have hS' : (0 : Int) < (S : Int) := by omega
  have el : ∀ (b : O) (x3 : Option O) (st : Nat), IsBox b → ∃ (x : Option Nat) (b' : O), IsBox b' ∧ (∀ n, x = some n → n < S) ∧ ∀ kd : D,
      ce__law_rows_0
        [some b, some (.sh (.int K)), some (.sh (.int S)), x3, some (.sh (.int st)), some (.sh kd)] = .ok (.sh (eOp x)) [some b', some (.sh (.int K)), some (.sh (.int S)), x3, some (.sh (.int st)), some (.sh kd)] := by
    intro b x3 st hb
    obtain ⟨v, b1, h0, h1, hb1, e1⟩ := take_ev hb hS'
    have m0 : 0 ≤ ((st : Int) + 1) % (S : Int) := Int.emod_nonneg _ (by omega)
    have m1 : ((st : Int) + 1) % (S : Int) < S := Int.emod_lt_of_pos _ hS'
    obtain ⟨x, b2, hx, hb2, e2⟩ := pick_ev (xs := [.non, .int v, .int (((st : Int) + 1) % (S : Int))]) hb1 (List.cons_ne_nil _ _)
    obtain ⟨y, rfl, hy⟩ : ∃ y : Option Nat, x = eOp y ∧ ∀ n, y = some n → n < S := by
      simp at hx
      rcases hx with rfl | rfl | rfl
      · exact ⟨none, rfl, fun n h => nomatch h⟩
      · exact ⟨some v.toNat, by simp [eOp, Int.toNat_of_nonneg h0], fun n h => by cases h; omega⟩
      · exact ⟨some (((st : Int) + 1) % (S : Int)).toNat, by simp [eOp, Int.toNat_of_nonneg m0], fun n h => by cases h; omega⟩
    refine ⟨y, b2, hb2, hy, fun kd => ?_⟩
    simp [ce__law_rows_0, e1, e2, modD_ok hS']
  have H := forL_inv (b := gN 4) (body := lb__law_rows_0)
    (fun i ρ => ∃ b rs x4, IsBox b ∧ ρ = [some b, some (.sh (.int K)), some (.sh (.int S)), some (.lst ((rs.map eRow).map O.sh)), x4, none] ∧ rs.length = i ∧ ∀ r ∈ rs, RowOk S K r) (rngD 0 S) 0
    (ρ := [some b, some (.sh (.int K)), some (.sh (.int S)), some (.lst []), none, none]) ⟨b, [], none, hb, rfl, rfl, fun _ h => nomatch h⟩ (by
      rintro i d ρ hd ⟨b, rs, x4, hb, rfl, hl, hr⟩
      obtain ⟨hi, rfl⟩ := rng_get hd
      rw [Nat.zero_add] at hl ⊢
      obtain ⟨os, r, e, ⟨b1, hb1, rfl⟩, f⟩ := comp_rel (b := gN 5) (el := ce__law_rows_0)
        (v := 5) (ρ := [some b, some (.sh (.int K)), some (.sh (.int S)), some (.lst ((rs.map eRow).map O.sh)), some (.sh (.int (i : Int))), none])
        (fun r => ∃ b', IsBox b' ∧ r = [some b', some (.sh (.int K)), some (.sh (.int S)), some (.lst ((rs.map eRow).map O.sh)), some (.sh (.int (i : Int))), none]) (fun _ o => ∃ x, o = O.sh (eOp x) ∧ ∀ n, x = some n → n < S) (ds := rngD 0 K) rfl ⟨b, hb, rfl⟩ (by
          rintro d hd ρ ⟨b', hb', rfl⟩
          obtain ⟨x, b2, hb2, hx, e⟩ := el b' (some (.lst ((rs.map eRow).map O.sh))) i hb'
          exact ⟨_, _, _, rfl, e d, ⟨b2, hb2, rfl⟩, x, rfl, hx⟩)
      obtain ⟨r, rfl, hlen, hx⟩ := Fa2.enc f
      rw [rng_len'] at hlen
      simp at e
      refine ⟨_, [some b1, some (.sh (.int K)), some (.sh (.int S)), some (.lst (((rs ++ [r]).map eRow).map O.sh)), some (.sh (.int (i : Int))), none], rfl, .inl ?_, b1, rs ++ [r], _, hb1, rfl, by simp [hl], fun q hq => ?_⟩
      · have hz : rs.length < sizeLine := by rw [hl]; exact Nat.lt_of_lt_of_le (Nat.lt_of_lt_of_le hi hS2) (by decide)
        simp [lb__law_rows_0, rng1_ok (show K ≤ 16777216 by omega), e, hz, eRow]
      · rcases List.mem_append.mp hq with hq | hq
        · exact hr q hq
        · rw [List.mem_singleton.mp hq]
          exact ⟨hlen, fun n hn => hx _ hn n rfl⟩)
  obtain ⟨r, e, b1, rs, x4, hb1, rfl, hl, hr⟩ := H
  rw [rng_len', Nat.zero_add] at hl
  refine ⟨rs, b1, hb1, hl, hr, ?_⟩
  refine mk0_rt rfl (r := [some b1, some (.sh (.int K)), some (.sh (.int S)), some (.sh (.lst (rs.map eRow))), x4, none]) ?_ rfl
  simp at e
  simp [b__law_rows, initE, rng1_ok (show S ≤ 16777216 by omega), e, eRows]
def NumsOk (C : Nat) (m : Int) (l : List Int) : Prop := l.length = C ∧ ∀ x ∈ l, 0 ≤ x ∧ x ≤ m
theorem nums_comp {b : O} {C : Nat} {most : Int} (hb : IsBox b) (hm : 0 ≤ most) (x1 x2 x4 x5 : Option O) : ∃ l b', IsBox b' ∧ NumsOk C (most + 1) l ∧
    compE (gN 6) tTrue ce__law_visits_0 [6] (rngD 0 C) [some b, x1, x2, some (.sh (.int most)), x4, x5, none] = .ok (.lst ((l.map D.int).map O.sh)) [some b', x1, x2, some (.sh (.int most)), x4, x5, none] := by
  obtain ⟨os, r, e, ⟨b1, hb1, rfl⟩, f⟩ := comp_rel (b := gN 6) (el := ce__law_visits_0) (v := 6) (ρ := [some b, x1, x2, some (.sh (.int most)), x4, x5, none])
    (fun r => ∃ b', IsBox b' ∧ r = [some b', x1, x2, some (.sh (.int most)), x4, x5, none]) (fun _ o => ∃ x, o = O.sh (D.int x) ∧ (0 ≤ x ∧ x ≤ most + 1)) (ds := rngD 0 C) rfl ⟨b, hb, rfl⟩ (by
      rintro d hd ρ ⟨b', hb', rfl⟩
      obtain ⟨v, b2, h0, h1, hb2, e⟩ := number_ev hb' hm
      exact ⟨_, .sh (.int v), [some b2, x1, x2, some (.sh (.int most)), x4, x5, some (.sh d)], rfl, by simp [ce__law_visits_0, e], ⟨b2, hb2, rfl⟩, v, rfl, h0, h1⟩)
  obtain ⟨l, rfl, hl, hx⟩ := Fa2.enc f
  rw [rng_len'] at hl
  exact ⟨l, b1, hb1, ⟨hl, hx⟩, e⟩
def ViOk (C : Nat) (m : Int) (v : List Int × List Int) : Prop := NumsOk C m v.1 ∧ NumsOk C m v.2
theorem visits_ev {b : O} {K C : Nat} {most : Int} (hb : IsBox b) (hm : 0 ≤ most) (hK : K ≤ 1000) (hC : C ≤ 1000) : ∃ vs b', IsBox b' ∧ vs.length = K ∧ (∀ v ∈ vs, ViOk C (most + 1) v) ∧
    Φ__law_visits [b, .sh (.int K), .sh (.int C), .sh (.int most)] = .ok (.sh (eVis vs)) [b', .sh (.int K), .sh (.int C), .sh (.int most)] := by
  have H := forL_inv (b := gN 5) (body := lb__law_visits_0)
    (fun i ρ => ∃ b vs x5, IsBox b ∧ ρ = [some b, some (.sh (.int K)), some (.sh (.int C)), some (.sh (.int most)), some (.lst ((vs.map eVi).map O.sh)), x5, none] ∧ vs.length = i ∧ ∀ v ∈ vs, ViOk C (most + 1) v) (rngD 0 K) 0
    (ρ := [some b, some (.sh (.int K)), some (.sh (.int C)), some (.sh (.int most)), some (.lst []), none, none]) ⟨b, [], none, hb, rfl, rfl, fun _ h => nomatch h⟩ (by
      rintro i d ρ hd ⟨b, vs, x5, hb, rfl, hl, hv⟩
      obtain ⟨hi, rfl⟩ := rng_get hd
      rw [Nat.zero_add] at hl ⊢
      obtain ⟨l1, b1, hb1, o1, e1⟩ := nums_comp (C := C) hb hm (some (.sh (.int K))) (some (.sh (.int C))) (some (.lst ((vs.map eVi).map O.sh))) (some (.sh (.int (i : Int))))
      obtain ⟨l2, b2, hb2, o2, e2⟩ := nums_comp (C := C) hb1 hm (some (.sh (.int K))) (some (.sh (.int C))) (some (.lst ((vs.map eVi).map O.sh))) (some (.sh (.int (i : Int))))
      simp at e1 e2
      refine ⟨_, [some b2, some (.sh (.int K)), some (.sh (.int C)), some (.sh (.int most)), some (.lst (((vs ++ [(l1, l2)]).map eVi).map O.sh)), some (.sh (.int (i : Int))), none], rfl, .inl ?_, b2, vs ++ [(l1, l2)], _, hb2, rfl, by simp [hl], fun q hq => ?_⟩
      · have hz : vs.length < sizeLine := by rw [hl]; exact Nat.lt_of_lt_of_le (Nat.lt_of_lt_of_le hi hK) (by decide)
        simp [lb__law_visits_0, show ce__law_visits_1 = ce__law_visits_0 from rfl, rng1_ok (show C ≤ 16777216 by omega), e1, e2, hz, eVi, eIs]
      · rcases List.mem_append.mp hq with hq | hq
        · exact hv q hq
        · rw [List.mem_singleton.mp hq]
          exact ⟨o1, o2⟩)
  obtain ⟨r, e, b1, vs, x5, hb1, rfl, hl, hv⟩ := H
  rw [rng_len', Nat.zero_add] at hl
  refine ⟨vs, b1, hb1, hl, hv, ?_⟩
  refine mk0_rt rfl (r := [some b1, some (.sh (.int K)), some (.sh (.int C)), some (.sh (.int most)), some (.sh (.lst (vs.map eVi))), x5, none]) ?_ rfl
  simp at e
  simp [b__law_visits, initE, rng1_ok (show K ≤ 16777216 by omega), e, eVis]
/-- the hall -/
def hallRow (n i : Nat) : List (Option Nat) := [if i < n then some (i + 1) else none, if 0 < i then some (i - 1) else none]
def hallRows (n : Nat) : List (List (Option Nat)) := (List.range (n + 1)).map (hallRow n)
def hallVis : List (List Int × List Int) := [([0, 1], [1, 0]), ([1, 0], [0, 1])]
theorem hall_ev {n : Nat} (hn : n ≤ 1000) : Φ__law_hall [.sh (.int n)] = .ok (.sh (.tup [eRows (hallRows n), eIs [0, (n : Int)], eVis hallVis])) [.sh (.int n)] := by
  refine mk0_rt rfl (r := [some (.sh (.int n)), some (.sh (eRows (hallRows n))), none]) ?_ rfl
  have hr : rng1 [.int ((n : Int) + 1)] = some (rngD 0 (n + 1)) := by
    rw [show ((n : Int) + 1) = ((n + 1 : Nat) : Int) by omega]
    exact rng1_ok (Nat.le_trans (Nat.succ_le_succ hn) (by decide))
  simp [b__law_hall, initE, hr]
  rw [comp_map (fun d => match d with | .int i => .sh (eRow (hallRow n i.toNat)) | _ => .sh .non)]
  · rw [rng_map]
    simp [eRows, hallRows, eIs, eVis, hallVis, eVi]
  · rfl
  · intro d hd
    obtain ⟨i, hi, rfl⟩ := mem_rng hd
    refine ⟨_, rfl, ?_, rfl⟩
    by_cases h1 : i < n <;> by_cases h2 : 0 < i <;> simp [ce__law_hall_0, h1, h2, hallRow, eRow, eOp] <;> omega
end Tk

set_option Elab.async false
set_option linter.all false
set_option maxRecDepth 100000
set_option maxHeartbeats 4000000
namespace Tk
open PySem PySem.Spec PyProof.Rows L2
/-! ## plans, in plain words -/
structure Cs where
  S : Nat
  K : Nat
  C : Nat
  cell : Nat → Nat → Option Nat
  purse : Nat → Int
  fee : Nat → Nat → Int
  gain : Nat → Nat → Int
def M18 : Int := 1000000000000000000
structure Cs.Ok (c : Cs) : Prop where
  S0 : 0 < c.S
  S1 : c.S ≤ 40
  K0 : 0 < c.K
  K1 : c.K ≤ 6
  C1 : c.C ≤ 60
  cl : ∀ s k n, c.cell s k = some n → n < c.S
  pu : ∀ i, 0 ≤ c.purse i ∧ c.purse i ≤ M18
  fe : ∀ k i, 0 ≤ c.fee k i ∧ c.fee k i ≤ M18
  ga : ∀ k i, 0 ≤ c.gain k i ∧ c.gain k i ≤ M18
inductive Ln where
  | come (t : Int)
  | visit (s k : Nat) (t : Int)
abbrev PS' := (Nat → Int) × (Nat → Int)
def Cs.drain (c : Cs) (k i : Nat) : Int := max 0 (c.fee k i - c.gain k i)
def Cs.can (c : Cs) (p : PS') (s k : Nat) (t : Int) : Prop := c.cell s k ≠ none ∧ t ≤ p.1 s ∧ ∀ i, i < c.C → c.fee k i + c.drain k i * (t - 1) ≤ p.2 i
instance (c : Cs) (p : PS') (s k : Nat) (t : Int) : Decidable (c.can p s k t) := by unfold Cs.can; infer_instance
def Cs.goC (cr : Nat → Int) (s n : Nat) (t : Int) : Nat → Int := fun i => if i = n then (if i = s then cr s - t else cr i) + t else (if i = s then cr s - t else cr i)
def Cs.goP (c : Cs) (po : Nat → Int) (k : Nat) (t : Int) : Nat → Int := fun i => po i + (c.gain k i - c.fee k i) * t
def Cs.move (c : Cs) (p : PS') (s k : Nat) (t : Int) : Option PS' := if c.can p s k t then some (Cs.goC p.1 s ((c.cell s k).getD 0) t, c.goP p.2 k t) else none
def Cs.comes (c : Cs) (p : PS') (t : Int) : PS' := (fun i => if i = 0 then p.1 0 + t else p.1 i, fun i => p.2 i + c.purse i * t)
def Cs.step (c : Cs) (p : PS') : Ln → Option PS'
  | .come t => some (c.comes p t)
  | .visit s k t => c.move p s k t
inductive End where
  | stop (n : Nat)
  | fin (p : PS')
def Cs.run (c : Cs) : List Ln → Nat → PS' → End
  | [], _, p => .fin p
  | l :: ls, n, p => match c.step p l with
    | none => .stop n
    | some p' => c.run ls (n + 1) p'
def z0 : PS' := (fun _ => 0, fun _ => 0)
theorem Cs.run_append (c : Cs) : ∀ (a b : List Ln) (n : Nat) (p : PS'), c.run (a ++ b) n p = match c.run a n p with
    | .stop m => .stop m
    | .fin q => c.run b (n + a.length) q
  | [], b, n, p => by simp [Cs.run]
  | l :: a, b, n, p => by
    simp only [List.cons_append, Cs.run]
    cases c.step p l with
    | none => rfl
    | some q =>
      simp only
      rw [c.run_append a b (n + 1) q, List.length_cons, show n + 1 + a.length = n + (a.length + 1) by omega]
/-- the place where it stops is the place counted on -/
theorem Cs.run_fin_n (c : Cs) : ∀ (a : List Ln) (n m : Nat) (p q : PS'), c.run a n p = .fin q → c.run a m p = .fin q
  | [], n, m, p, q, h => h
  | l :: a, n, m, p, q, h => by
    simp only [Cs.run] at h ⊢
    cases e : c.step p l with
    | none => rw [e] at h; cases h
    | some r =>
      rw [e] at h
      exact c.run_fin_n a _ _ r q h
/-- lines that are lines of this book -/
def Cs.line (c : Cs) (m : Int) : Ln → Prop
  | .come t => 1 ≤ t ∧ t ≤ m
  | .visit s k t => s < c.S ∧ k < c.K ∧ c.cell s k ≠ none ∧ 1 ≤ t ∧ t ≤ m
def Cs.Nn (c : Cs) (p : PS') : Prop := (∀ i, 0 ≤ p.1 i) ∧ ∀ i, i < c.C → 0 ≤ p.2 i
theorem Cs.nn_step {c : Cs} (ok : c.Ok) {m : Int} {l : Ln} (hl : c.line m l) {p q : PS'} (h : c.Nn p) (e : c.step p l = some q) : c.Nn q := by
  cases l with
  | come t =>
    cases e
    refine ⟨fun i => ?_, fun i hi => ?_⟩
    · simp only [Cs.comes]
      have := h.1 i
      have := h.1 0
      have := hl.1
      split <;> omega
    · simp only [Cs.comes]
      have := h.2 i hi
      have := Int.mul_nonneg (ok.pu i).1 (show 0 ≤ t by have := hl.1; omega)
      omega
  | visit s k t =>
    simp only [Cs.step, Cs.move] at e
    split at e
    · rename_i hc
      cases e
      obtain ⟨h1, h2, h3⟩ := hc
      obtain ⟨_, _, _, t1, _⟩ := hl
      refine ⟨fun i => ?_, fun i hi => ?_⟩
      · simp only [Cs.goC]
        have := h.1 i
        have := h.1 s
        split <;> split <;> omega
      · simp only [Cs.goP]
        have a := h3 i hi
        have b := ok.fe k i
        have g := ok.ga k i
        unfold Cs.drain at a
        by_cases hd : c.fee k i ≤ c.gain k i
        · have := h.2 i hi
          have := Int.mul_nonneg (show 0 ≤ c.gain k i - c.fee k i by omega) (show 0 ≤ t by omega)
          omega
        · rw [Int.max_eq_right (by omega)] at a
          have e1 : (c.fee k i - c.gain k i) * (t - 1) = c.fee k i * t - c.gain k i * t - c.fee k i + c.gain k i := by
            rw [Int.mul_sub, Int.mul_one, Int.sub_mul]; omega
          rw [Int.sub_mul]
          omega
    · cases e
theorem Cs.nn_run {c : Cs} (ok : c.Ok) {m : Int} : ∀ {a : List Ln} {n : Nat} {p q : PS'}, (∀ l ∈ a, c.line m l) → c.Nn p → c.run a n p = .fin q → c.Nn q
  | [], n, p, q, _, h, e => by cases e; exact h
  | l :: a, n, p, q, hl, h, e => by
    simp only [Cs.run] at e
    cases e1 : c.step p l with
    | none => rw [e1] at e; cases e
    | some r =>
      rw [e1] at e
      exact nn_run ok (fun l hl' => hl l (List.mem_cons_of_mem _ hl')) (nn_step ok (hl l List.mem_cons_self) h e1) e
theorem nn_z0 {c : Cs} : c.Nn z0 := ⟨fun _ => Int.le_refl _, fun _ _ => Int.le_refl _⟩
/-- what is the same where it counts -/
def Cs.eqv (c : Cs) (p q : PS') : Prop := (∀ i, p.1 i = q.1 i) ∧ ∀ i, p.2 i = q.2 i
def padd (p q : PS') : PS' := (fun i => p.1 i + q.1 i, fun i => p.2 i + q.2 i)
def pmul (f : Int) (p : PS') : PS' := (fun i => p.1 i * f, fun i => p.2 i * f)
/-- with more of all the same is let -/
theorem Cs.step_add {c : Cs} {l : Ln} {p q d : PS'} (h : c.Nn d) (e : c.step p l = some q) : c.step (padd d p) l = some (padd d q) := by
  cases l with
  | come t =>
    cases e
    simp only [Cs.step, Cs.comes, padd, Option.some.injEq, Prod.mk.injEq]
    constructor <;> funext i
    · split
      · rename_i h; subst h; omega
      · rfl
    · omega
  | visit s k t =>
    simp only [Cs.step, Cs.move] at e ⊢
    split at e
    · rename_i hc
      cases e
      obtain ⟨h1, h2, h3⟩ := hc
      rw [if_pos ⟨h1, by simp only [padd]; have := h.1 s; omega, fun i hi => by simp only [padd]; have := h.2 i hi; have := h3 i hi; omega⟩]
      simp only [padd, Option.some.injEq, Prod.mk.injEq]
      constructor <;> funext i
      · simp only [Cs.goC]
        split <;> split <;> first | (subst_vars; omega) | rfl | omega
      · simp only [Cs.goP]; omega
    · cases e
theorem Cs.run_add {c : Cs} {d : PS'} (h : c.Nn d) : ∀ {a : List Ln} {n : Nat} {p q : PS'}, c.run a n p = .fin q → c.run a n (padd d p) = .fin (padd d q)
  | [], n, p, q, e => by cases e; rfl
  | l :: a, n, p, q, e => by
    simp only [Cs.run] at e ⊢
    cases e1 : c.step p l with
    | none => rw [e1] at e; cases e
    | some r =>
      rw [e1] at e
      rw [step_add h e1]
      exact run_add h e
def Ln.mul (f : Int) : Ln → Ln
  | .come t => .come (t * f)
  | .visit s k t => .visit s k (t * f)
theorem drain_scale {x d t f p : Int} (hx : d ≤ x) (hf : 1 ≤ f) (h : x + d * (t - 1) ≤ p) : x + d * (t * f - 1) ≤ p * f := by
  have h1 := Int.mul_le_mul_of_nonneg_right h (show 0 ≤ f by omega)
  have h2 := Int.mul_le_mul_of_nonneg_left hf (show 0 ≤ x - d by omega)
  have e1 : (x + d * (t - 1)) * f = x * f + d * (t * f) - d * f := by
    simp only [Int.add_mul, Int.mul_sub, Int.sub_mul, Int.mul_assoc, Int.mul_one, Int.one_mul]; omega
  have e2 : d * (t * f - 1) = d * (t * f) - d := by rw [Int.mul_sub, Int.mul_one]
  have e3 : (x - d) * f = x * f - d * f := Int.sub_mul ..
  omega
theorem Cs.step_mul {c : Cs} (ok : c.Ok) {f : Int} (hf : 1 ≤ f) {l : Ln} {p q : PS'} (e : c.step p l = some q) : c.step (pmul f p) (l.mul f) = some (pmul f q) := by
  cases l with
  | come t =>
    cases e
    simp only [Cs.step, Ln.mul, Cs.comes, pmul, Option.some.injEq, Prod.mk.injEq]
    constructor <;> funext i
    · split
      · rename_i h; subst h; rw [Int.add_mul]
      · rfl
    · rw [Int.add_mul, Int.mul_assoc]
  | visit s k t =>
    simp only [Cs.step, Ln.mul, Cs.move] at e ⊢
    split at e
    · rename_i hc
      cases e
      obtain ⟨h1, h2, h3⟩ := hc
      rw [if_pos ⟨h1, by simp only [pmul]; exact Int.mul_le_mul_of_nonneg_right h2 (by omega), fun i hi => by
        simp only [pmul]
        refine drain_scale ?_ hf (h3 i hi)
        have := ok.fe k i
        have := ok.ga k i
        unfold Cs.drain
        omega⟩]
      simp only [pmul, Option.some.injEq, Prod.mk.injEq]
      constructor <;> funext i
      · simp only [Cs.goC]
        split <;> split <;> first | rfl | (simp only [Int.add_mul, Int.sub_mul])
      · simp only [Cs.goP]
        rw [Int.add_mul, Int.mul_assoc]
    · cases e
theorem Cs.run_mul {c : Cs} (ok : c.Ok) {f : Int} (hf : 1 ≤ f) : ∀ {a : List Ln} {n : Nat} {p q : PS'}, c.run a n p = .fin q → c.run (a.map (Ln.mul f)) n (pmul f p) = .fin (pmul f q)
  | [], n, p, q, e => by cases e; rfl
  | l :: a, n, p, q, e => by
    simp only [Cs.run, List.map_cons] at e ⊢
    cases e1 : c.step p l with
    | none => rw [e1] at e; cases e
    | some r =>
      rw [e1] at e
      rw [step_mul ok hf e1]
      exact run_mul ok hf e
/-! ## plans written out, deed by deed -/
inductive Dd where
  | come
  | ask (g k : Nat)
structure PSt where
  ans : List Bool
  st : List Nat
  po : Nat → Int
def Cs.pstep (c : Cs) (p : PSt) : Dd → Option PSt
  | .come => some ⟨p.ans ++ [true], p.st ++ [0], fun i => p.po i + c.purse i * 1⟩
  | .ask g k => match p.st[g]? with
    | none => none
    | some s => match c.cell s k with
      | none => none
      | some n => if k < c.K ∧ ∀ i, i < c.C → c.fee k i ≤ p.po i then some ⟨p.ans ++ [false], p.st.set g n, fun i => p.po i - c.fee k i + c.gain k i⟩ else none
def Cs.pruns (c : Cs) : List Dd → PSt → Option PSt
  | [], p => some p
  | d :: ds, p => (c.pstep p d).bind (c.pruns ds)
theorem Cs.pruns_append (c : Cs) : ∀ (a b : List Dd) (p : PSt), c.pruns (a ++ b) p = (c.pruns a p).bind (c.pruns b)
  | [], b, p => rfl
  | d :: a, b, p => by
    simp only [List.cons_append, Cs.pruns]
    cases c.pstep p d with
    | none => rfl
    | some q => exact c.pruns_append a b q
def setAll (st : List Nat) (gs : List Nat) (n : Nat) : List Nat := gs.foldl (fun s g => s.set g n) st
def there (st : List Nat) (s : Nat) (t : Nat) : List Nat := ((List.range st.length).filter fun g => st[g]? == some s).take t
def Cs.wline (c : Cs) (st : List Nat) : Ln → List Dd × List Nat
  | .come t => (List.replicate t.toNat .come, st ++ List.replicate t.toNat 0)
  | .visit s k t => ((there st s t.toNat).map fun g => .ask g k, setAll st (there st s t.toNat) ((c.cell s k).getD 0))
def Cs.wr (c : Cs) : List Ln → List Nat → List Dd × List Nat
  | [], st => ([], st)
  | l :: ls, st => ((c.wline st l).1 ++ (c.wr ls (c.wline st l).2).1, (c.wr ls (c.wline st l).2).2)
theorem there_mem {st : List Nat} {s t g : Nat} (h : g ∈ there st s t) : st[g]? = some s := by
  have := List.mem_of_mem_take h
  rw [List.mem_filter] at this
  simpa using this.2
theorem there_nodup {st : List Nat} {s t : Nat} : (there st s t).Nodup :=
  List.Sublist.nodup (List.take_sublist _ _) (List.Sublist.nodup List.filter_sublist List.nodup_range)
theorem range_filter_len (s : Nat) : ∀ st : List Nat, ((List.range st.length).filter fun g => st[g]? == some s).length = st.count s
  | [] => rfl
  | x :: st => by
    rw [List.length_cons, List.range_succ_eq_map, List.filter_cons, List.filter_map]
    have ih := range_filter_len s st
    have e : ((fun g => (x :: st)[g]? == some s) ∘ Nat.succ) = fun g => st[g]? == some s := by
      funext g; simp
    rw [e]
    by_cases h : x = s
    · subst h; simp [ih]
    · simp [h, ih, List.count_cons]
theorem there_len {st : List Nat} {s t : Nat} (h : t ≤ st.count s) : (there st s t).length = t := by
  unfold there
  rw [List.length_take, range_filter_len]
  omega
theorem count_set {x s n : Nat} : ∀ {st : List Nat} {g : Nat}, st[g]? = some s → ((st.set g n).count x : Int) = st.count x - (if s = x then 1 else 0) + (if n = x then 1 else 0)
  | [], g, h => by simp at h
  | y :: st, 0, h => by
    simp at h
    subst h
    simp only [List.set_cons_zero, List.count_cons]
    by_cases h1 : y = x <;> by_cases h2 : n = x <;> simp [h1, h2] <;> omega
  | y :: st, g + 1, h => by
    simp at h
    have ih := count_set (x := x) (n := n) h
    simp only [List.set_cons_succ, List.count_cons]
    push_cast
    rw [ih]
    omega
theorem setAll_get {n : Nat} : ∀ {gs : List Nat} {st : List Nat} {g : Nat}, g ∉ gs → (setAll st gs n)[g]? = st[g]?
  | [], st, g, _ => rfl
  | a :: gs, st, g, h => by
    show (setAll (st.set a n) gs n)[g]? = _
    rw [setAll_get (fun z => h (List.mem_cons_of_mem _ z)), List.getElem?_set_ne]
    intro e
    exact h (e ▸ List.mem_cons_self)
theorem setAll_len {n : Nat} : ∀ {gs : List Nat} {st : List Nat}, (setAll st gs n).length = st.length
  | [], st => rfl
  | a :: gs, st => by
    show (setAll (st.set a n) gs n).length = _
    rw [setAll_len, List.length_set]
theorem setAll_count {x s n : Nat} : ∀ {gs : List Nat} {st : List Nat}, gs.Nodup → (∀ g ∈ gs, st[g]? = some s) → ((setAll st gs n).count x : Int) = st.count x - (if s = x then gs.length else 0) + (if n = x then gs.length else 0)
  | [], st, _, _ => by simp [setAll]
  | g :: gs, st, nd, h => by
    have nn := List.nodup_cons.mp nd
    show ((setAll (st.set g n) gs n).count x : Int) = _
    rw [setAll_count (s := s) nn.2 fun y hy => by
      rw [List.getElem?_set_ne (fun (e : g = y) => nn.1 (by rw [e]; exact hy))]
      exact h y (List.mem_cons_of_mem _ hy), count_set (h g List.mem_cons_self), List.length_cons]
    push_cast
    split <;> split <;> omega
/-- guests come, one by one -/
theorem Cs.pruns_come (c : Cs) : ∀ (t : Nat) (p : PSt), ∃ an, c.pruns (List.replicate t .come) p = some ⟨p.ans ++ an, p.st ++ List.replicate t 0, fun i => p.po i + c.purse i * t⟩
  | 0, p => ⟨[], by simp [Cs.pruns]⟩
  | t + 1, p => by
    obtain ⟨an, e⟩ := c.pruns_come t ⟨p.ans ++ [true], p.st ++ [0], fun i => p.po i + c.purse i * 1⟩
    refine ⟨true :: an, ?_⟩
    rw [List.replicate_succ]
    simp only [Cs.pruns, Cs.pstep, Option.bind_some]
    rw [e]
    simp only [List.append_assoc, List.singleton_append, List.replicate_succ]
    congr 2
    funext i
    rw [Int.add_assoc, ← Int.mul_add]
    congr 2
    omega
/-- guests ask for one kind, one by one -/
theorem Cs.pruns_ask (c : Cs) {s k n : Nat} (hk : k < c.K) (hn : c.cell s k = some n) : ∀ (gs : List Nat) (p : PSt), gs.Nodup → (∀ g ∈ gs, p.st[g]? = some s) →
    (∀ i, i < c.C → c.fee k i + c.drain k i * ((gs.length : Int) - 1) ≤ p.po i) →
    ∃ an, c.pruns (gs.map fun g => .ask g k) p = some ⟨p.ans ++ an, setAll p.st gs n, fun i => p.po i + (c.gain k i - c.fee k i) * gs.length⟩
  | [], p, _, _, _ => ⟨[], by simp [Cs.pruns, setAll]⟩
  | g :: gs, p, nd, h, hp => by
    have nn := List.nodup_cons.mp nd
    have h0 : ∀ i, i < c.C → c.fee k i ≤ p.po i := fun i hi => by
      have a := hp i hi
      rw [List.length_cons] at a
      have : 0 ≤ c.drain k i * (((gs.length + 1 : Nat) : Int) - 1) := Int.mul_nonneg (by unfold Cs.drain; omega) (by omega)
      omega
    obtain ⟨an, e⟩ := c.pruns_ask hk hn gs ⟨p.ans ++ [false], p.st.set g n, fun i => p.po i - c.fee k i + c.gain k i⟩ nn.2 (fun y hy => by
      simp only
      rw [List.getElem?_set_ne (fun (e : g = y) => nn.1 (by rw [e]; exact hy))]
      exact h y (List.mem_cons_of_mem _ hy)) (fun i hi => by
      simp only
      have a := hp i hi
      rw [List.length_cons, Int.natCast_add, Int.natCast_one, show (gs.length : Int) + 1 - 1 = ((gs.length : Int) - 1) + 1 by omega, Int.mul_add, Int.mul_one] at a
      have : c.fee k i - c.gain k i ≤ c.drain k i := by unfold Cs.drain; omega
      omega)
    refine ⟨false :: an, ?_⟩
    simp only [List.map_cons, Cs.pruns, Cs.pstep]
    rw [h g List.mem_cons_self]
    simp only [hn]
    rw [if_pos ⟨hk, h0⟩, Option.bind_some, e]
    simp only [List.append_assoc, List.singleton_append, Option.some.injEq, PSt.mk.injEq]
    refine ⟨trivial, rfl, ?_⟩
    funext i
    rw [List.length_cons, Int.natCast_add, Int.natCast_one, Int.mul_add, Int.mul_one]
    omega
theorem Cs.pruns_line {c : Cs} {m : Int} {l : Ln} (hl : c.line m l) {p q : PS'} (e : c.step p l = some q) {w : PSt} (hw : w.po = p.2) (hc : ∀ s, p.1 s = (w.st.count s : Int)) :
    ∃ an, c.pruns (c.wline w.st l).1 w = some ⟨w.ans ++ an, (c.wline w.st l).2, q.2⟩ ∧ ∀ s, q.1 s = ((c.wline w.st l).2.count s : Int) := by
  cases l with
  | come t =>
    cases e
    obtain ⟨an, e⟩ := c.pruns_come t.toNat w
    refine ⟨an, ?_, fun s => ?_⟩
    · simp only [Cs.wline, Cs.comes]
      rw [e, hw, Int.toNat_of_nonneg (by have := hl.1; omega)]
    · simp only [Cs.wline, Cs.comes]
      have h1 := hc s
      have h2 := hc 0
      have := hl.1
      rw [List.count_append, List.count_replicate]
      push_cast
      split
      · subst_vars
        simp
        omega
      · rename_i hs
        have : (0 == s) = false := by simpa using Ne.symm hs
        simp [this]
        omega
  | visit s k t =>
    simp only [Cs.step, Cs.move] at e
    split at e
    · rename_i hcan
      cases e
      obtain ⟨_, hk, hne, h1, _⟩ := hl
      obtain ⟨_, ht, hp⟩ := hcan
      obtain ⟨n, hn⟩ := Option.ne_none_iff_exists'.mp hne
      have htl : (there w.st s t.toNat).length = t.toNat := there_len (by have := hc s; omega)
      have htl' : ((there w.st s t.toNat).length : Int) = t := by rw [htl]; omega
      obtain ⟨an, e⟩ := c.pruns_ask hk hn (there w.st s t.toNat) w there_nodup (fun g hg => there_mem hg) (fun i hi => by rw [htl', hw]; exact hp i hi)
      refine ⟨an, ?_, fun x => ?_⟩
      · simp only [Cs.wline, hn, Option.getD_some]
        rw [e, htl', hw]
        rfl
      · simp only [Cs.wline, hn, Option.getD_some, Cs.goC]
        have hh := setAll_count (x := x) (s := s) (n := n) (there_nodup (st := w.st) (s := s) (t := t.toNat)) (fun g hg => there_mem hg)
        rw [htl] at hh
        have g1 : (n = x) ↔ (x = n) := eq_comm
        have g2 : (s = x) ↔ (x = s) := eq_comm
        simp only [g1, g2] at hh
        rw [hh]
        have h1 := hc x
        have h2 := hc s
        by_cases e1 : x = n <;> by_cases e2 : x = s
        · rw [if_pos e1, if_pos e1, if_pos e2, if_pos e2]; subst e2; omega
        · rw [if_pos e1, if_pos e1, if_neg e2, if_neg e2]; omega
        · rw [if_neg e1, if_neg e1, if_pos e2, if_pos e2]; subst e2; omega
        · rw [if_neg e1, if_neg e1, if_neg e2, if_neg e2]; omega
    · cases e
theorem Cs.pruns_plan {c : Cs} {m : Int} : ∀ {a : List Ln} {n : Nat} {p q : PS'} {w : PSt}, (∀ l ∈ a, c.line m l) → c.run a n p = .fin q → w.po = p.2 → (∀ s, p.1 s = (w.st.count s : Int)) →
    ∃ an, c.pruns (c.wr a w.st).1 w = some ⟨w.ans ++ an, (c.wr a w.st).2, q.2⟩ ∧ ∀ s, q.1 s = ((c.wr a w.st).2.count s : Int)
  | [], n, p, q, w, _, e, hw, hc => by
    cases e
    exact ⟨[], by simp [Cs.wr, Cs.pruns, ← hw], hc⟩
  | l :: a, n, p, q, w, hl, e, hw, hc => by
    simp only [Cs.run] at e
    cases e1 : c.step p l with
    | none => rw [e1] at e; cases e
    | some r =>
      rw [e1] at e
      obtain ⟨an, e2, h2⟩ := pruns_line (hl l List.mem_cons_self) e1 hw hc
      obtain ⟨an2, e3, h3⟩ := pruns_plan (w := ⟨w.ans ++ an, (c.wline w.st l).2, r.2⟩) (fun l hl' => hl l (List.mem_cons_of_mem _ hl')) e rfl h2
      refine ⟨an ++ an2, ?_, h3⟩
      simp only [Cs.wr]
      rw [c.pruns_append, e2, Option.bind_some, e3, List.append_assoc]
end Tk

set_option Elab.async false
set_option linter.all false
set_option maxRecDepth 100000
set_option maxHeartbeats 4000000
namespace Tk
open PySem PySem.Spec PyProof.Rows L2
/-! ## a case, as data -/
def Cs.eRows (c : Cs) : D := .tup (mI c.S fun s => .tup (mI c.K fun k => eOp (c.cell s k)))
def Cs.ePurse (c : Cs) : D := .tup (vI c.C c.purse)
def Cs.eVi (c : Cs) (k : Nat) : D := .tup [.tup (vI c.C (c.fee k)), .tup (vI c.C (c.gain k))]
def Cs.eVis (c : Cs) : D := .tup (mI c.K c.eVi)
def Cs.eBook (c : Cs) : D := .ins 0 [("kinds", .int c.K), ("rows", c.eRows)]
def Cs.eDoors (c : Cs) : D := .ins 1 [("purse", c.ePurse), ("visits", c.eVis)]
def lnP : Ln → List D
  | .come t => [.str "come", .int t]
  | .visit s k t => [.str "visit", .int s, .int k, .int t]
def eLn (l : Ln) : D := .tup (lnP l)
section
variable {c : Cs}
@[simp] theorem fld_kinds : fldD [0] "kinds" c.eBook = some (.sh (.int c.K)) := rfl
@[simp] theorem fld_rows : fldD [0] "rows" c.eBook = some (.sh c.eRows) := rfl
@[simp] theorem fld_purse : fldD [1] "purse" c.eDoors = some (.sh c.ePurse) := rfl
@[simp] theorem fld_visits : fldD [1] "visits" c.eDoors = some (.sh c.eVis) := rfl
@[simp] theorem isO_book : isO 0 c.eBook = some true := rfl
@[simp] theorem isO_doors : isO 1 c.eDoors = some true := rfl
@[simp] theorem len_rows : lenD [c.eRows] = some (.sh (.int c.S)) := by simp [Cs.eRows]
@[simp] theorem len_purse : lenD [c.ePurse] = some (.sh (.int c.C)) := by simp [Cs.ePurse]
@[simp] theorem len_vis : lenD [c.eVis] = some (.sh (.int c.K)) := by simp [Cs.eVis]
theorem ix_rows {s : Nat} (h : s < c.S) : ixD c.eRows (.int s) = some (.sh (.tup (mI c.K fun k => eOp (c.cell s k)))) := by
  unfold Cs.eRows
  rw [ixD_tup, atI_mI h]
  rfl
theorem ix_row {s k : Nat} (h : k < c.K) : ixD (.tup (mI c.K fun k => eOp (c.cell s k))) (.int k) = some (.sh (eOp (c.cell s k))) := by
  rw [ixD_tup, atI_mI h]
  rfl
theorem ix_vis {k : Nat} (h : k < c.K) : ixD c.eVis (.int k) = some (.sh (c.eVi k)) := by
  unfold Cs.eVis
  rw [ixD_tup, atI_mI h]
  rfl
theorem atI_2_0 {α : Type} {a b : α} : atI [a, b] 0 = some a := rfl
theorem atI_2_1 {α : Type} {a b : α} : atI [a, b] 1 = some b := rfl
@[simp] theorem ix_fee {k : Nat} : ixD (c.eVi k) (.int 0) = some (.sh (.tup (vI c.C (c.fee k)))) := rfl
@[simp] theorem ix_gain {k : Nat} : ixD (c.eVi k) (.int 1) = some (.sh (.tup (vI c.C (c.gain k)))) := rfl
@[simp] theorem isNon_op {o : Option Nat} : isNon (eOp o) = o.isNone := by cases o <;> rfl
@[simp] theorem eOp_some {n : Nat} : eOp (some n) = .int n := rfl
@[simp] theorem eOp_none : eOp none = .non := rfl
@[simp] theorem negD_int {i : Int} : negD (.int i) = some (.sh (.int (-i))) := rfl
theorem need_book_ev {a : D} : Φ_need_book [.sh c.eBook, .sh a] = .ok (.sh .non) [.sh c.eBook, .sh a] := by
  refine mk0_nx rfl (r := [some (.sh c.eBook), some (.sh a)]) ?_ rfl
  simp [b_need_book, initE]
theorem need_doors_ev {a : D} : Φ_need_doors [.sh c.eDoors, .sh a, .sh (.int c.K)] = .ok (.sh .non) [.sh c.eDoors, .sh a, .sh (.int c.K)] := by
  refine mk0_nx rfl (r := [some (.sh c.eDoors), some (.sh a), some (.sh (.int c.K))]) ?_ rfl
  simp [b_need_doors, initE]
theorem is_times_ev {t : Int} : Φ_is_times [.sh (.int t)] = .ok (.sh (.bl (decide (1 ≤ t)))) [.sh (.int t)] := by
  refine mk0_rt rfl (r := [some (.sh (.int t))]) ?_ rfl
  simp [b_is_times, initE, is_integer_int]
theorem is_word_ev {x y : Str} {k : Bool} (h : eqD (.str x) (.str y) = some k) : Φ_is_word [.sh (.str x), .sh (.str y)] = .ok (.sh (.bl k)) [.sh (.str x), .sh (.str y)] := by
  refine mk0_rt rfl (r := [some (.sh (.str x)), some (.sh (.str y))]) ?_ rfl
  simp [b_is_word, initE, h]
theorem eq_cc : eqD (.str "come") (.str "come") = some true := by decide +kernel
theorem eq_vv : eqD (.str "visit") (.str "visit") = some true := by decide +kernel
theorem eq_vc : eqD (.str "visit") (.str "come") = some false := by decide +kernel
theorem eq_cv : eqD (.str "come") (.str "visit") = some false := by decide +kernel
theorem is_below_nat {i n : Nat} (h : i < n) : Φ_is_below [.sh (.int i), .sh (.int n)] = .ok (.sh (.bl true)) [.sh (.int i), .sh (.int n)] := by
  rw [is_below_ev]
  have h1 : (0 : Int) ≤ (i : Int) := by omega
  have h2 : (i : Int) < (n : Int) := by omega
  simp [h1, h2]
theorem ix_come0 {t : Int} {d : D} (h : Sq (lnP (.come t)) d) : ixD d (.int 0) = some (.sh (.str "come")) := ix_sq h 0
theorem ix_come1 {t : Int} {d : D} (h : Sq (lnP (.come t)) d) : ixD d (.int 1) = some (.sh (.int t)) := ix_sq h 1
theorem ix_comeL {t : Int} {d : D} (h : Sq (lnP (.come t)) d) : ixD d (.int (-1)) = some (.sh (.int t)) := ix_sq h (-1)
theorem ix_visit0 {s k : Nat} {t : Int} {d : D} (h : Sq (lnP (.visit s k t)) d) : ixD d (.int 0) = some (.sh (.str "visit")) := ix_sq h 0
theorem ix_visit1 {s k : Nat} {t : Int} {d : D} (h : Sq (lnP (.visit s k t)) d) : ixD d (.int 1) = some (.sh (.int s)) := ix_sq h 1
theorem ix_visit2 {s k : Nat} {t : Int} {d : D} (h : Sq (lnP (.visit s k t)) d) : ixD d (.int 2) = some (.sh (.int k)) := ix_sq h 2
theorem ix_visit3 {s k : Nat} {t : Int} {d : D} (h : Sq (lnP (.visit s k t)) d) : ixD d (.int 3) = some (.sh (.int t)) := ix_sq h 3
theorem ix_visitL {s k : Nat} {t : Int} {d : D} (h : Sq (lnP (.visit s k t)) d) : ixD d (.int (-1)) = some (.sh (.int t)) := ix_sq h (-1)
theorem is_line_ev {m : Int} {l : Ln} {d : D} (hl : c.line m l) (h : Sq (lnP l) d) : Φ_is_line [.sh c.eBook, .sh d] = .ok (.sh (.bl true)) [.sh c.eBook, .sh d] := by
  refine mk0_rt rfl (r := [some (.sh c.eBook), some (.sh d)]) ?_ rfl
  cases l with
  | come t =>
    simp [b_is_line, initE, is_row_ev h, ix_come0 h, ix_come1 h, is_word_ev eq_cc, is_times_ev, hl.1, lnP]
  | visit s k t =>
    obtain ⟨hs, hk, hc, h1, _⟩ := hl
    have hn : (c.cell s k).isNone = false := by
      cases e : c.cell s k with
      | none => exact absurd e hc
      | some n => rfl
    simp [b_is_line, initE, is_row_ev h, ix_visit0 h, ix_visit1 h, ix_visit2 h, ix_visit3 h, is_word_ev eq_vv, is_times_ev, h1, lnP, is_below_nat hs, is_below_nat hk, ix_rows hs, ix_row hk, hn]
/-- a plan, as lists or tuples -/
def LPlan (p : List Ln) (d : D) : Prop := ∃ ys, Sq ys d ∧ Fa2 (fun l y => Sq (lnP l) y) p ys
theorem Fa2.get {α β : Type} {R : α → β → Prop} : ∀ {xs : List α} {ys : List β} {i : Nat} {y : β}, Fa2 R xs ys → ys[i]? = some y → ∃ x, xs[i]? = some x ∧ R x y
  | _, _, i, y, .nil, h => by simp at h
  | _, _, 0, y, .cons a b, h => by
    simp at h
    subst h
    exact ⟨_, rfl, a⟩
  | _, _, i + 1, y, .cons a b, h => by
    simp at h
    obtain ⟨x, e, r⟩ := Fa2.get b h
    exact ⟨x, by simpa using e, r⟩
theorem enumL_len : ∀ (k : Nat) (xs : List D), (enumL k xs).length = xs.length
  | k, [] => rfl
  | k, x :: xs => by
    unfold enumL
    rw [List.length_cons, List.length_cons, enumL_len]
theorem enumL_at : ∀ (k : Nat) (xs : List D) {i : Nat} {d : D}, (enumL k xs)[i]? = some d → ∃ x, xs[i]? = some x ∧ d = .tup [.int ((k + i : Nat) : Int), x]
  | k, [], i, d, h => by simp [enumL] at h
  | k, x :: xs, 0, d, h => by
    simp [enumL] at h
    exact ⟨x, rfl, h.symm⟩
  | k, x :: xs, i + 1, d, h => by
    unfold enumL at h
    simp at h
    obtain ⟨y, e, r⟩ := enumL_at (k + 1) xs h
    exact ⟨y, by simpa using e, by rw [r, show k + 1 + i = k + (i + 1) by omega]⟩
theorem enum1_sq {xs : List D} {d : D} (h : Sq xs d) : enum1 [d] = some (enumL 0 xs) := by
  unfold enum1
  simp only [seqLT_sq h]
theorem line_last {l : Ln} {d : D} (h : Sq (lnP l) d) : ∃ t, ixD d (.int (-1)) = some (.sh (.int t)) ∧ ∀ m, c.line m l → 1 ≤ t ∧ t ≤ m := by
  cases l with
  | come t => exact ⟨t, ix_comeL h, fun m hm => hm⟩
  | visit s k t => exact ⟨t, ix_visitL h, fun m hm => hm.2.2.2⟩
def M30 : Int := 1000000000000000000000000000000
theorem need_plan_ev {p : List Ln} {d : D} (h : LPlan p d) (hl : ∀ l ∈ p, c.line M30 l) (hn : p.length ≤ 200) : Φ_need_plan [.sh c.eBook, .sh d] = .ok (.sh .non) [.sh c.eBook, .sh d] := by
  obtain ⟨ys, hs, hf⟩ := h
  have hlen := Fa2.length hf
  have H := forL_inv (b := gT (gC (gN 2) (gC (gN 3) gE))) (body := lb_need_plan_0) (fun _ ρ => ∃ x y, ρ = [some (.sh c.eBook), some (.sh d), x, y]) (enumL 0 ys) 0 (ρ := [some (.sh c.eBook), some (.sh d), none, none]) ⟨none, none, rfl⟩ (by
      rintro i e ρ he ⟨x, y, rfl⟩
      obtain ⟨z, hz, rfl⟩ := enumL_at 0 ys he
      obtain ⟨l, hli, hz2⟩ := hf.get hz
      have hl' := hl l (List.mem_of_getElem? hli)
      obtain ⟨t, ht, hm⟩ := line_last (c := c) hz2
      have hm := hm _ hl'
      refine ⟨_, _, rfl, .inl ?_, some (.sh (.int ((0 + i : Nat) : Int))), some (.sh z), rfl⟩
      have h2 : decide (t ≤ 1000000000000000000000000000000) = true := decide_eq_true hm.2
      have h3 : decide (1 ≤ t) = true := decide_eq_true hm.1
      simp [lb_need_plan_0, is_line_ev hl' hz2, ht, is_between_ev, h2, h3])
  obtain ⟨r, e, x, y, rfl⟩ := H
  refine mk0_nx rfl (r := [some (.sh c.eBook), some (.sh d), x, y]) ?_ rfl
  have hlt : ¬ (200 : Int) < ys.length := by omega
  simp [b_need_plan, initE, is_sequence_sq hs, len_sq hs, hlt, enum1_sq hs, e]
/-! ## sums of tickets -/
theorem covers_ev {n : Nat} {f g : Nat → Int} {x y : D} (hx : seq? x = some (vI n f)) (hy : seq? y = some (vI n g)) : Φ_covers [.sh x, .sh y] = .ok (.sh (.bl (decide (∀ i, i < n → g i ≤ f i)))) [.sh x, .sh y] := by
  refine mk0_rt rfl (r := [some (.sh x), some (.sh y), none, none]) ?_ rfl
  simp [b_covers, initE, zipO2_ok hx hy]
  rw [comp_mI2 (fun i => .sh (.bl (decide (g i ≤ f i)))) rfl rfl (by decide) fun i hi => by simp [ce_covers_0]]
  simp
theorem paid_ev {n k : Nat} {f : Nat → Int} {x : D} (hn : n = c.C) (hx : seq? x = some (vI n f)) : Φ_paid [.sh x, .sh (c.eVi k)] = .ok (.sh (.tup (vI n fun i => f i - c.fee k i + c.gain k i))) [.sh x, .sh (c.eVi k)] := by
  subst hn
  refine mk0_rt rfl (r := [some (.sh x), some (.sh (c.eVi k)), none, none, none]) ?_ rfl
  simp [b_paid, initE, zipO3_ok hx (y := .tup (vI c.C (c.fee k))) (z := .tup (vI c.C (c.gain k))) rfl rfl]
  rw [comp_mI3 (fun i => .sh (.int (f i - c.fee k i + c.gain k i))) rfl rfl rfl (by decide) (by decide) (by decide) fun i hi => by simp [ce_paid_0]]
  simp [vI, mI]
theorem poured_ev {n : Nat} {f g : Nat → Int} {t : Int} {x y : D} (hx : seq? x = some (vI n f)) (hy : seq? y = some (vI n g)) (ht : Sm t) (hg : ∀ i, i < n → Sm (g i)) :
    Φ_poured [.sh x, .sh y, .sh (.int t)] = .ok (.sh (.tup (vI n fun i => f i + t * g i))) [.sh x, .sh y, .sh (.int t)] := by
  refine mk0_rt rfl (r := [some (.sh x), some (.sh y), some (.sh (.int t)), none, none]) ?_ rfl
  simp [b_poured, initE, zipO2_ok hx hy]
  rw [comp_mI2 (fun i => .sh (.int (f i + t * g i))) rfl rfl (by decide) fun i hi => by simp [ce_poured_0, ht.mul (hg i hi)]]
  simp [vI, mI]
theorem nets_of_ev : Φ_nets_of [.sh c.eDoors] = .ok (.lst ((mI c.K fun k => .tup (vI c.C fun i => c.gain k i - c.fee k i)).map O.sh)) [.sh c.eDoors] := by
  refine mk0_rt rfl (r := [some (.sh c.eDoors), none, none, none]) ?_ rfl
  simp [b_nets_of, initE]
  simp only [Cs.eVis, seq_tup, optL]
  simp
  rw [comp_mI (fun k => .sh (.tup (vI c.C fun i => c.gain k i - c.fee k i))) rfl (by simp) fun k hk => by
    simp [ce_nets_of_1, zipO2_ok (x := .tup (vI c.C (c.fee k))) (y := .tup (vI c.C (c.gain k))) rfl rfl]
    rw [comp_mI2 (fun i => .sh (.int (c.gain k i - c.fee k i))) rfl rfl (by decide) fun i hi => by simp [ce_nets_of_0]]
    simp [vI, mI]]
  simp [mI]
@[simp] theorem maxD_int {i j : Int} : maxD [.int i, .int j] = some (.sh (.int (max i j))) := by
  unfold maxD
  simp only [Option.some.injEq, O.sh.injEq, D.int.injEq]
  omega
@[simp] theorem minD_int {i j : Int} : minD [.int i, .int j] = some (.sh (.int (min i j))) := by
  unfold minD
  simp only [Option.some.injEq, O.sh.injEq, D.int.injEq]
  omega
theorem fare_before_ev {k : Nat} {f : Nat → Int} (hk : k < c.K) : Φ_fare_before [.sh c.eDoors, .sh (.int k), .sh (.tup (vI c.C f))] =
    .ok (.sh (.tup (vI c.C fun i => max (c.fee k i) (f i - c.gain k i + c.fee k i)))) [.sh c.eDoors, .sh (.int k), .sh (.tup (vI c.C f))] := by
  refine mk0_rt rfl (r := [some (.sh c.eDoors), some (.sh (.int k)), some (.sh (.tup (vI c.C f))), some (.sh (.tup (vI c.C (c.fee k)))), some (.sh (.tup (vI c.C (c.gain k)))), none, none, none]) ?_ rfl
  simp [b_fare_before, initE, ix_vis hk]
  simp [Cs.eVi]
  rw [zipO3_ok (x := .tup (vI c.C (c.fee k))) (y := .tup (vI c.C (c.gain k))) (z := .tup (vI c.C f)) rfl rfl rfl]
  simp
  rw [comp_mI3 (fun i => .sh (.int (max (c.fee k i) (f i - c.gain k i + c.fee k i)))) rfl rfl rfl (by decide) (by decide) (by decide) fun i hi => by simp [ce_fare_before_0]]
  simp [vI, mI]
theorem vI_zero {n : Nat} : (mI n fun _ => D.int 0) = vI n fun _ => 0 := rfl
@[simp] theorem one_size : (1 ≤ sizeLine) = True := eq_true (by decide)
@[simp] theorem iRev_ev {f : Env → Res D} {ρ : Env} : iRev f ρ = (f ρ).bind fun d r => match seqLT d with
  | some ds => if ds.length ≤ sizeLine then .ok ds.reverse r else .no
  | none => .no := rfl
theorem zmul_tup (ok : c.Ok) : mulD (.tup [.int 0]) (.int c.C) = some (.sh (.tup (vI c.C fun _ => 0))) := mulD_tup (by have := ok.C1; omega)
theorem zmul_lst (ok : c.Ok) : mulD (.lst [.int 0]) (.int c.C) = some (.lst ((vI c.C fun _ => 0).map O.sh)) := mulD_lst (by have := ok.C1; omega)
theorem zmul_tupS (ok : c.Ok) : mulD (.tup [.int 0]) (.int c.S) = some (.sh (.tup (vI c.S fun _ => 0))) := mulD_tup (by have := ok.S1; omega)
theorem zmul_lstS (ok : c.Ok) : mulD (.lst [.int 0]) (.int c.S) = some (.lst ((vI c.S fun _ => 0).map O.sh)) := mulD_lst (by have := ok.S1; omega)
theorem fare_row_ev (ok : c.Ok) {k : Nat} (hk : k < c.K) : Φ_fare_row [.sh c.eDoors, .sh (.tup [.int k])] = .ok (.sh (.tup (vI c.C (c.fee k)))) [.sh c.eDoors, .sh (.tup [.int k])] := by
  have hv : (vI c.C fun i => max (c.fee k i) (0 - c.gain k i + c.fee k i)) = vI c.C (c.fee k) := vI_congr fun i _ => by
    have := ok.ga k i
    omega
  refine mk0_rt rfl (r := [some (.sh c.eDoors), some (.sh (.tup [.int k])), some (.sh (.tup (vI c.C (c.fee k)))), some (.sh (.int k))]) ?_ rfl
  simp [b_fare_row, initE, zmul_tup ok]
  rw [forL_nx (ρ1 := [some (.sh c.eDoors), some (.sh (.tup [.int k])), some (.sh (.tup (vI c.C fun _ => 0))), some (.sh (.int k))]) (r := [some (.sh c.eDoors), some (.sh (.tup [.int k])), some (.sh (.tup (vI c.C (c.fee k)))), some (.sh (.int k))]) rfl (by
    simp [lb_fare_row_0, fare_before_ev hk, ← hv])]
  simp
end
end Tk

set_option Elab.async false
set_option linter.all false
set_option maxRecDepth 100000
set_option maxHeartbeats 4000000
namespace Tk
open PySem PySem.Spec PyProof.Rows L2
section
variable {c : Cs}
theorem net_row_ev (ok : c.Ok) {k : Nat} (hk : k < c.K) : Φ_net_row [.sh c.eDoors, .sh (.tup [.int k])] = .ok (.sh (.tup (vI c.C fun i => c.gain k i - c.fee k i))) [.sh c.eDoors, .sh (.tup [.int k])] := by
  have hv : (vI c.C fun i => 0 + (c.gain k i - c.fee k i)) = vI c.C fun i => c.gain k i - c.fee k i := vI_congr fun i _ => by omega
  refine mk0_rt rfl (r := [some (.sh c.eDoors), some (.sh (.tup [.int k])), some (.sh (.lst (mI c.K fun k => .tup (vI c.C fun i => c.gain k i - c.fee k i)))), some (.sh (.lst (vI c.C fun i => c.gain k i - c.fee k i))), some (.sh (.int k)), none, none]) ?_ rfl
  simp [b_net_row, initE, nets_of_ev, zmul_lst ok]
  rw [forL_nx (ρ1 := [some (.sh c.eDoors), some (.sh (.tup [.int k])), some (.sh (.lst (mI c.K fun k => .tup (vI c.C fun i => c.gain k i - c.fee k i)))), some (.sh (.lst (vI c.C fun _ => 0))), some (.sh (.int k)), none, none])
    (r := [some (.sh c.eDoors), some (.sh (.tup [.int k])), some (.sh (.lst (mI c.K fun k => .tup (vI c.C fun i => c.gain k i - c.fee k i)))), some (.sh (.lst (vI c.C fun i => c.gain k i - c.fee k i))), some (.sh (.int k)), none, none]) rfl (by
    simp [lb_net_row_0, atI_mI hk]
    rw [zipO2_ok (x := .lst (vI c.C fun _ => 0)) (y := .tup (vI c.C fun i => c.gain k i - c.fee k i)) rfl rfl]
    simp
    rw [comp_mI2 (fun i => .sh (.int (0 + (c.gain k i - c.fee k i)))) rfl rfl (by decide) fun i hi => by simp [ce_net_row_0]]
    rw [← hv]
    simp [vI, mI])]
  simp
theorem Sm_le {x : Int} (h : x.natAbs ≤ 2 ^ 200) : Sm x := Nat.lt_of_le_of_lt h (Nat.pow_lt_pow_right (by decide) (by decide))
theorem Sm_30 {x : Int} (h0 : -M30 ≤ x) (h : x ≤ M30) : Sm x := Sm_le (Nat.le_trans (show x.natAbs ≤ 1000000000000000000000000000000 by unfold M30 at h0 h; omega) (by decide))
theorem Sm_drain (ok : c.Ok) (k i : Nat) : Sm (c.drain k i) := by
  have := ok.fe k i
  have := ok.ga k i
  refine Sm_30 ?_ ?_ <;> unfold Cs.drain M30 <;> unfold M18 at * <;> omega
theorem fare_often_ev (ok : c.Ok) {k : Nat} (hk : k < c.K) {t : Int} (h1 : 1 ≤ t) (h2 : t ≤ M30) : Φ_fare_often [.sh c.eDoors, .sh (.tup [.int k]), .sh (.int t)] =
    .ok (.sh (.tup (vI c.C fun i => c.fee k i + c.drain k i * (t - 1)))) [.sh c.eDoors, .sh (.tup [.int k]), .sh (.int t)] := by
  have hv : (vI c.C fun i => c.fee k i - min 0 (c.gain k i - c.fee k i) * (t - 1)) = vI c.C fun i => c.fee k i + c.drain k i * (t - 1) := vI_congr fun i _ => by
    have : min 0 (c.gain k i - c.fee k i) = - c.drain k i := by unfold Cs.drain; omega
    rw [this, Int.neg_mul]
    omega
  have hs : ∀ i, mulD (.int (min 0 (c.gain k i - c.fee k i))) (.int (t - 1)) = some (.sh (.int (min 0 (c.gain k i - c.fee k i) * (t - 1)))) := fun i => by
    refine Sm.mul ?_ (Sm_30 (by unfold M30; omega) (by omega))
    have := ok.fe k i
    have := ok.ga k i
    refine Sm_30 ?_ ?_ <;> unfold M30 <;> unfold M18 at * <;> omega
  refine mk0_rt rfl (r := [some (.sh c.eDoors), some (.sh (.tup [.int k])), some (.sh (.int t)), some (.sh (.lst (mI c.C fun i => .tup [.int (c.fee k i), .int (c.gain k i - c.fee k i)]))), none, none]) ?_ rfl
  simp [b_fare_often, initE, fare_row_ev ok hk, net_row_ev ok hk]
  rw [zipO2_ok (x := .tup (vI c.C (c.fee k))) (y := .tup (vI c.C fun i => c.gain k i - c.fee k i)) rfl rfl]
  simp
  rw [comp_mI2L (fun i _ => rfl) (fun i => .sh (.int (c.fee k i - min 0 (c.gain k i - c.fee k i) * (t - 1)))) rfl rfl (by decide) fun i hi => by simp [ce_fare_often_0, hs i]]
  rw [← hv]
  simp [vI, mI]
/-! ## plan_end -/
def nums (c : Cs) (f : Nat → Int) : O := .lst ((vI c.S f).map O.sh)
def eEnd (c : Cs) : End → D
  | .stop n => .tup [.str "stopped", .int n]
  | .fin p => .tup [.str "let", .tup (vI c.S p.1), .tup (vI c.C p.2)]
theorem nums_get {f : Nat → Int} {s : Nat} (h : s < c.S) : atI ((vI c.S f).map O.sh) (s : Int) = some (.sh (.int (f s))) := by
  rw [atI_map, atI_vI h]
  rfl
theorem nums_len {f : Nat → Int} : ((vI c.S f).map O.sh).length = c.S := by simp
theorem nums_set {f : Nat → Int} {s : Nat} {x : Int} : ((vI c.S f).map O.sh).set s (.sh (.int x)) = (vI c.S fun i => if i = s then x else f i).map O.sh := by
  rw [← List.map_set]
  unfold vI
  rw [mI_set]
  congr 1
  exact mI_congr fun i _ => by
    show (if i = s then D.int x else D.int (f i)) = D.int (if i = s then x else f i)
    split <;> rfl
theorem eq_i {i j : Int} : eqD (.int i) (.int j) = some (i == j) := eqD_int
theorem plan_step {m : Int} (ok : c.Ok) {l : Ln} {z d : D} {n : Nat} {cr po : Nat → Int} {x7 x8 : Option O} (hz : Sq (lnP l) z) (hl : c.line M30 l) :
    match c.step (cr, po) l with
    | none => ∃ r, lb_plan_end_0 [some (.sh c.eBook), some (.sh c.eDoors), some (.sh d), some (nums c cr), some (.sh (.tup (vI c.C po))), some (.sh (.int n)), some (.sh z), x7, x8] = .rt (.sh (.tup [.str "stopped", .int n])) r
    | some q => ∃ u7 u8, lb_plan_end_0 [some (.sh c.eBook), some (.sh c.eDoors), some (.sh d), some (nums c cr), some (.sh (.tup (vI c.C po))), some (.sh (.int n)), some (.sh z), x7, x8] =
      .nx [some (.sh c.eBook), some (.sh c.eDoors), some (.sh d), some (nums c q.1), some (.sh (.tup (vI c.C q.2))), some (.sh (.int n)), some (.sh z), u7, u8] := by
  cases l with
  | come t =>
    obtain ⟨h1, h2⟩ := hl
    refine ⟨some (.sh (.int t)), x8, ?_⟩
    have hp := poured_ev (x := .tup (vI c.C po)) (y := c.ePurse) (t := t) rfl rfl (Sm_30 (by unfold M30; omega) h2) fun i _ => by
      have := ok.pu i
      refine Sm_30 ?_ ?_ <;> unfold M30 <;> unfold M18 at * <;> omega
    have hn0 : atI ((vI c.S cr).map O.sh) 0 = some (.sh (.int (cr 0))) := nums_get (s := 0) ok.S0
    have hx0 : ixN c.S 0 = some 0 := ixN_nat (i := 0) ok.S0
    simp [lb_plan_end_0, ix_comeL hz, len_sq hz, lnP, nums, hn0, hx0, nums_set, hp, Cs.comes]
    exact vI_congr fun i _ => by rw [Int.mul_comm]
  | visit s k t =>
    obtain ⟨hs, hk, hc, h1, h2⟩ := hl
    obtain ⟨to, hto⟩ := Option.ne_none_iff_exists'.mp hc
    have htS := ok.cl s k to hto
    have hfo := fare_often_ev ok hk h1 h2
    have hco := covers_ev (x := .tup (vI c.C po)) (y := .tup (vI c.C fun i => c.fee k i + c.drain k i * (t - 1))) rfl rfl
    by_cases hcan : c.can (cr, po) s k t
    · rw [show c.step (cr, po) (.visit s k t) = some (Cs.goC cr s to t, c.goP po k t) by simp [Cs.step, Cs.move, hcan, hto]]
      obtain ⟨_, hle, hfa⟩ := hcan
      have hle : ¬ cr s < t := by have hle : t ≤ cr s := hle; omega
      refine ⟨some (.sh (.int t)), some (.sh (.tup [.int k])), ?_⟩
      have hp := poured_ev (x := .tup (vI c.C po)) (y := .tup (vI c.C fun i => c.gain k i - c.fee k i)) (t := t) rfl rfl (Sm_30 (by unfold M30; omega) h2) fun i _ => by
        have := ok.fe k i
        have := ok.ga k i
        refine Sm_30 ?_ ?_ <;> unfold M30 <;> unfold M18 at * <;> omega
      rw [decide_eq_true hfa] at hco
      simp [lb_plan_end_0, ix_visitL hz, len_sq hz, lnP, ix_visit2 hz, nums, ix_visit1 hz, nums_get hs, ixN_nat hs, hle, hfo, hco, nums_set, ix_rows hs, ix_row hk, hto, nums_get htS, ixN_nat htS, net_row_ev ok hk, hp]
      refine ⟨congrArg _ (vI_congr fun i _ => ?_), vI_congr fun i _ => ?_⟩
      · unfold Cs.goC
        by_cases e : i = to
        · rw [if_pos e, if_pos e, e]
        · rw [if_neg e, if_neg e]
      unfold Cs.goP
      rw [Int.mul_comm]
    · rw [show c.step (cr, po) (.visit s k t) = none by simp [Cs.step, Cs.move, hcan]]
      by_cases hle : cr s < t
      · exact ⟨_, by simp [lb_plan_end_0, ix_visitL hz, len_sq hz, lnP, ix_visit2 hz, nums, ix_visit1 hz, nums_get hs, ixN_nat hs, hle]; rfl⟩
      · have hfa : ¬ ∀ i, i < c.C → c.fee k i + c.drain k i * (t - 1) ≤ po i := fun z => hcan ⟨hc, by show t ≤ cr s; omega, z⟩
        rw [decide_eq_false hfa] at hco
        exact ⟨_, by simp [lb_plan_end_0, ix_visitL hz, len_sq hz, lnP, ix_visit2 hz, nums, ix_visit1 hz, nums_get hs, ixN_nat hs, hle, hfo, hco]; rfl⟩
theorem plan_loop (ok : c.Ok) {d : D} : ∀ {p : List Ln} {ys : List D} {n : Nat} {cr po : Nat → Int} {x5 x6 x7 x8 : Option O}, Fa2 (fun l y => Sq (lnP l) y) p ys → (∀ l ∈ p, c.line M30 l) →
    match c.run p n (cr, po) with
    | .stop m => ∃ r, forL (gT (gC (gN 5) (gC (gN 6) gE))) lb_plan_end_0 (enumL n ys) [some (.sh c.eBook), some (.sh c.eDoors), some (.sh d), some (nums c cr), some (.sh (.tup (vI c.C po))), x5, x6, x7, x8] = .rt (.sh (.tup [.str "stopped", .int m])) r
    | .fin q => ∃ u5 u6 u7 u8, forL (gT (gC (gN 5) (gC (gN 6) gE))) lb_plan_end_0 (enumL n ys) [some (.sh c.eBook), some (.sh c.eDoors), some (.sh d), some (nums c cr), some (.sh (.tup (vI c.C po))), x5, x6, x7, x8] =
      .nx [some (.sh c.eBook), some (.sh c.eDoors), some (.sh d), some (nums c q.1), some (.sh (.tup (vI c.C q.2))), u5, u6, u7, u8] := by
  intro p ys
  induction p generalizing ys with
  | nil =>
    intro n cr po x5 x6 x7 x8 hf _
    cases hf
    exact ⟨x5, x6, x7, x8, rfl⟩
  | cons l p ih =>
    intro n cr po x5 x6 x7 x8 hf hl
    cases hf with
    | @cons _ z _ zs hz hf =>
      have st := plan_step (d := d) (n := n) (cr := cr) (po := po) (x7 := x7) (x8 := x8) (m := 0) ok hz (hl l List.mem_cons_self)
      simp only [Cs.run]
      cases e : c.step (cr, po) l with
      | none =>
        rw [e] at st
        obtain ⟨r, st⟩ := st
        exact ⟨r, forL_rt rfl st⟩
      | some q =>
        rw [e] at st
        obtain ⟨x7, x8, st⟩ := st
        have := ih (n := n + 1) (cr := q.1) (po := q.2) (x5 := some (.sh (.int n))) (x6 := some (.sh z)) (x7 := x7) (x8 := x8) hf fun l h => hl l (List.mem_cons_of_mem _ h)
        simp only
        rw [show c.run p (n + 1) q = c.run p (n + 1) (q.1, q.2) from rfl]
        cases e2 : c.run p (n + 1) (q.1, q.2) with
        | stop m =>
          rw [e2] at this
          obtain ⟨r, this⟩ := this
          exact ⟨r, (forL_nx rfl st).trans this⟩
        | fin w =>
          rw [e2] at this
          obtain ⟨y5, y6, y7, y8, this⟩ := this
          exact ⟨y5, y6, y7, y8, (forL_nx rfl st).trans this⟩
theorem plan_end_ev (ok : c.Ok) {p : List Ln} {d : D} (h : LPlan p d) (hl : ∀ l ∈ p, c.line M30 l) : Φ_plan_end [.sh c.eBook, .sh c.eDoors, .sh d] = .ok (.sh (eEnd c (c.run p 0 z0))) [.sh c.eBook, .sh c.eDoors, .sh d] := by
  obtain ⟨ys, hs, hf⟩ := h
  have H := plan_loop (d := d) (n := 0) (cr := fun _ => 0) (po := fun _ => 0) (x5 := none) (x6 := none) (x7 := none) (x8 := none) ok hf hl
  rw [show (fun _ => 0, fun _ => 0) = z0 from rfl] at H
  cases e : c.run p 0 z0 with
  | stop m =>
    rw [e] at H
    obtain ⟨r, H⟩ := H
    refine mk0_rt rfl (r := r) ?_ rfl
    simp [b_plan_end, initE, zmul_lstS ok, zmul_tup ok, enum1_sq hs]
    unfold nums at H
    rw [H]
    rfl
  | fin q =>
    rw [e] at H
    obtain ⟨x5, x6, x7, x8, H⟩ := H
    refine mk0_rt rfl (r := [some (.sh c.eBook), some (.sh c.eDoors), some (.sh d), some (.sh (.lst (vI c.S q.1))), some (.sh (.tup (vI c.C q.2))), x5, x6, x7, x8]) ?_ rfl
    simp [b_plan_end, initE, zmul_lstS ok, zmul_tup ok, enum1_sq hs]
    unfold nums at H
    rw [H]
    simp [eEnd]
theorem carried_ev (ok : c.Ok) {p : List Ln} {d : D} (h : LPlan p d) (hl : ∀ l ∈ p, c.line M30 l) (hn : p.length ≤ 200) : Φ_carried [.sh c.eBook, .sh c.eDoors, .sh d] = .ok (.sh (eEnd c (c.run p 0 z0))) [.sh c.eBook, .sh c.eDoors, .sh d] := by
  refine mk0_rt rfl (r := [some (.sh c.eBook), some (.sh c.eDoors), some (.sh d)]) ?_ rfl
  simp [b_carried, initE, need_book_ev, need_doors_ev, need_plan_ev h hl hn, plan_end_ev ok h hl]
end
end Tk

set_option Elab.async false
set_option linter.all false
set_option maxRecDepth 100000
set_option maxHeartbeats 4000000
namespace Tk
open PySem PySem.Spec PyProof.Rows L2
section
variable {ρ : Env} {el : Env → Res O} {t : Env → Res Bool}
theorem comp_gN {v : Nat} {ds : List D} (p : D → Bool) (g : D → O) (hs : okSlot (slot ρ v) = true)
    (ht : ∀ d ∈ ds, t (ρ.set v (some (.sh d))) = .ok (p d) (ρ.set v (some (.sh d)))) (he : ∀ d ∈ ds, p d = true → el (ρ.set v (some (.sh d))) = .ok (g d) (ρ.set v (some (.sh d)))) :
    compE (gN v) t el [v] ds ρ = .ok (.lst ((ds.filter p).map g)) ρ :=
  comp_pure p g hs fun d hd => ⟨_, by rw [gN_ev, List.set_set], ht d hd, he d hd, by rw [List.set_set]⟩
theorem comp_gNm {v : Nat} {ds : List D} (g : D → O) (hs : okSlot (slot ρ v) = true) (he : ∀ d ∈ ds, el (ρ.set v (some (.sh d))) = .ok (g d) (ρ.set v (some (.sh d)))) :
    compE (gN v) tTrue el [v] ds ρ = .ok (.lst (ds.map g)) ρ := by
  have := comp_gN (ds := ds) (t := tTrue) (fun _ => true) g hs (fun _ _ => rfl) fun d hd _ => he d hd
  rw [this, List.filter_eq_self.mpr fun _ _ => rfl]
theorem comp_mIt {v n : Nat} {h : Nat → D} (p : Nat → Bool) (g : Nat → O) (hs : okSlot (slot ρ v) = true)
    (ht : ∀ i, i < n → t (ρ.set v (some (.sh (h i)))) = .ok (p i) (ρ.set v (some (.sh (h i))))) (he : ∀ i, i < n → p i = true → el (ρ.set v (some (.sh (h i)))) = .ok (g i) (ρ.set v (some (.sh (h i))))) :
    compE (gN v) t el [v] (mI n h) ρ = .ok (.lst (((List.range n).filter p).map g)) ρ := by
  unfold compE
  rw [if_pos (by simp [hs]), show wipeE ρ [v] = ρ.set v none from rfl]
  have key : ∀ xs : List Nat, (∀ i ∈ xs, i < n) → compL (gN v) t el [v] (xs.map h) (ρ.set v none) = .ok ((xs.filter p).map g) (ρ.set v none) := by
    intro xs
    induction xs with
    | nil => intro _; rfl
    | cons x xs ih =>
      intro hx
      have e0 := ht x (hx x List.mem_cons_self)
      have e1 := he x (hx x List.mem_cons_self)
      have e2 := ih fun i hi => hx i (List.mem_cons_of_mem _ hi)
      simp only [List.map_cons]
      unfold compL
      simp only [gN_ev, List.set_set, Res.bind_ok, e0]
      rw [show wipeE (ρ.set v (some (.sh (h x)))) [v] = ρ.set v none by simp [wipeE]]
      cases hp : p x with
      | true =>
        simp only [if_true, e1 hp, Res.bind_ok]
        rw [show wipeE (ρ.set v (some (.sh (h x)))) [v] = ρ.set v none by simp [wipeE], e2, List.filter_cons, hp]
        rfl
      | false =>
        simp only [Bool.false_eq_true, if_false]
        rw [e2, List.filter_cons, hp]
        rfl
  unfold mI
  rw [key _ fun i hi => List.mem_range.mp hi]
  simp only
  rw [show restE ρ [v] (ρ.set v none) = ρ from rest1]
end
theorem neD_nil {n : Nat} {xs : List D} (h : ∀ x ∈ xs, Pl n x) (hn : n ≤ 63) : neD (.lst xs) (.lst []) = some (!xs.isEmpty) := by
  cases xs with
  | nil => exact neD_same (n := 1) (fun _ h => nomatch h) (by decide)
  | cons x xs => exact neD_diff (n := n + 1) (m := 1) h (fun _ h => nomatch h) (by omega) (by decide) (fun e => by cases e)
theorem eqD_nil' {n : Nat} {xs : List D} (h : ∀ x ∈ xs, Pl n x) (hn : n ≤ 63) : eqD (.lst xs) (.lst []) = some xs.isEmpty := by
  cases xs with
  | nil => exact eqD_same (n := 1) (fun _ h => nomatch h) (by decide)
  | cons x xs => exact eqD_diff (n := n + 1) (m := 1) h (fun _ h => nomatch h) (by omega) (by decide) (fun e => by cases e)
theorem Pl_int {n : Nat} {i : Int} : Pl n (.int i) := Pl_at rfl
theorem Pl_vI {n m : Nat} {f : Nat → Int} : ∀ x ∈ vI m f, Pl n x := fun x hx => by
  obtain ⟨i, _, rfl⟩ := mem_mI hx
  exact Pl_int
theorem Pl_tupI {n m : Nat} {f : Nat → Int} : Pl (n + 1) (.tup (vI m f)) := Pl_vI
theorem filt_empty {n : Nat} {p : Nat → Bool} : ((List.range n).filter p).isEmpty = decide (∀ i, i < n → p i = false) := by
  rw [Bool.eq_iff_iff]
  simp [List.isEmpty_iff]
theorem addD_tup {xs ys : List D} (h : xs.length + ys.length ≤ 100000) : addD (.tup xs) (.tup ys) = some (.sh (.tup (xs ++ ys))) := if_pos (Nat.le_trans h (by decide))
theorem addD_lst {xs ys : List D} (h : xs.length + ys.length ≤ 100000) : addD (.lst xs) (.lst ys) = some (.lst ((xs ++ ys).map O.sh)) := if_pos (Nat.le_trans h (by decide))
theorem cut_to {α : Type} {xs : List α} {k : Nat} (h : k ≤ xs.length) : cutD xs none (some (k : Int)) = xs.take k := by
  unfold cutD
  rw [HT.sIx_nat, HT.sIx_none, Nat.min_eq_left h]
  simp
theorem cut_from {α : Type} {xs : List α} {k : Nat} (h : k ≤ xs.length) : cutD xs (some (k : Int)) none = xs.drop k := by
  unfold cutD
  rw [HT.sIx_nat, HT.sIx_none, Nat.min_eq_left h, List.take_of_length_le]
  rw [List.length_drop]
  exact Nat.le_refl _
theorem cut_last {α : Type} {xs : List α} {x : α} : cutD (xs ++ [x]) none (some (-1)) = xs := by
  unfold cutD
  rw [HT.sIx_none]
  unfold HT.sIx
  simp only
  rw [if_pos (by omega)]
  have : ((-1 : Int) + ((xs ++ [x]).length : Int)).toNat = xs.length := by
    rw [List.length_append, List.length_singleton]
    omega
  rw [this]
  simp
section
variable {c : Cs}
@[simp] theorem slD_tup {xs : List D} {l h : Option Int} : slD (.tup xs) l h = some (.sh (.tup (cutD xs l h))) := rfl
@[simp] theorem slD_lst {xs : List D} {l h : Option Int} : slD (.lst xs) l h = some (.lst ((cutD xs l h).map O.sh)) := rfl
def eSt (c : Cs) (p : PS') : List D := [.tup (vI c.S p.1), .tup (vI c.C p.2)]
theorem pu_Sm (ok : c.Ok) (i : Nat) : Sm (c.purse i) := by
  have := ok.pu i
  refine Sm_30 ?_ ?_ <;> unfold M30 <;> unfold M18 at * <;> omega
theorem t_Sm {t : Int} (h1 : 1 ≤ t) (h2 : t ≤ M30) : Sm t := Sm_30 (by unfold M30; omega) h2
theorem net_Sm (ok : c.Ok) (k i : Nat) : Sm (c.gain k i - c.fee k i) := by
  have := ok.fe k i
  have := ok.ga k i
  refine Sm_30 ?_ ?_ <;> unfold M30 <;> unfold M18 at * <;> omega
theorem pool_come_ev (ok : c.Ok) {p : PS'} {t : Int} (h1 : 1 ≤ t) (h2 : t ≤ M30) : Φ__law_pool_come [.sh (.tup (vI c.S p.1)), .sh (.tup (vI c.C p.2)), .sh c.ePurse, .sh (.int t)] =
    .ok (.sh (.tup (eSt c (c.comes p t)))) [.sh (.tup (vI c.S p.1)), .sh (.tup (vI c.C p.2)), .sh c.ePurse, .sh (.int t)] := by
  refine mk0_rt rfl (r := [some (.sh (.tup (vI c.S p.1))), some (.sh (.tup (vI c.C p.2))), some (.sh c.ePurse), some (.sh (.int t)), none]) ?_ rfl
  obtain ⟨n, hn⟩ : ∃ n, c.S = n + 1 := ⟨c.S - 1, by have := ok.S0; omega⟩
  have hC := ok.C1
  have h0 : atI (vI c.S p.1) 0 = some (.int (p.1 0)) := atI_vI (i := 0) ok.S0
  have hd : cutD (vI c.S p.1) (some 1) none = mI n fun i => .int (p.1 (i + 1)) := by
    have := cut_from (xs := vI c.S p.1) (k := 1) (by simp; omega)
    rw [show ((1 : Nat) : Int) = 1 from rfl] at this
    rw [this, hn]
    exact mI_tail
  have ha : addD (.tup [.int (p.1 0 + t)]) (.tup (mI n fun i => .int (p.1 (i + 1)))) = some (.sh (.tup (vI c.S fun i => if i = 0 then p.1 0 + t else p.1 i))) := by
    rw [addD_tup (by have := ok.S1; simp; omega), hn, vI, mI_cons]
    simp only [Option.some.injEq, O.sh.injEq, D.tup.injEq]
    simp
  simp [b__law_pool_come, initE, h0, hd, ha, rng1_ok' (show c.C ≤ 16777216 by omega)]
  rw [comp_mI (fun i => .sh (.int (p.2 i + c.purse i * t))) rfl (by simp) fun i hi => by
    simp [ce__law_pool_come_0, atI_vI hi]
    simp [Cs.ePurse, atI_vI hi, (pu_Sm ok i).mul (t_Sm h1 h2)]]
  simp [eSt, Cs.comes, vI, mI]
theorem pool_move_ev (ok : c.Ok) {p : PS'} {s k : Nat} {t : Int} (hs : s < c.S) (hk : k < c.K) (h1 : 1 ≤ t) (h2 : t ≤ M30) :
    Φ__law_pool_move [.sh c.eRows, .sh c.eVis, .sh (.tup (vI c.S p.1)), .sh (.tup (vI c.C p.2)), .sh (.int s), .sh (.int k), .sh (.int t)] =
    .ok (.sh (match c.move p s k t with | none => .non | some q => .tup (eSt c q))) [.sh c.eRows, .sh c.eVis, .sh (.tup (vI c.S p.1)), .sh (.tup (vI c.C p.2)), .sh (.int s), .sh (.int k), .sh (.int t)] := by
  have hC := ok.C1
  have hS := ok.S1
  have hmax : ∀ i, maxD [.lst [.int 0, .int (c.fee k i - c.gain k i)]] = some (.sh (.int (c.drain k i))) := fun i => by
    show some (O.sh (.int (topI 0 [c.fee k i - c.gain k i]))) = _
    unfold Cs.drain topI topI
    simp only [Option.some.injEq, O.sh.injEq, D.int.injEq]
    split <;> omega
  have hdr : ∀ (r : Env), r = [some (.sh c.eRows), some (.sh c.eVis), some (.sh (.tup (vI c.S p.1))), some (.sh (.tup (vI c.C p.2))), some (.sh (.int s)), some (.sh (.int k)), some (.sh (.int t)), some (.sh (.tup (vI c.C (c.fee k)))), some (.sh (.tup (vI c.C (c.gain k)))), none, none, none] →
      compE (gN 11) tTrue ce__law_pool_move_0 [11] (mI c.C fun i => .int i) r = .ok (.lst ((vI c.C (c.drain k)).map O.sh)) r := by
    rintro r rfl
    rw [comp_mI (fun i => .sh (.int (c.drain k i))) rfl (by simp) fun i hi => by simp [ce__law_pool_move_0, atI_vI hi, hmax]]
    simp [vI, mI]
  by_cases hcell : c.cell s k = none
  · refine mk0_rt rfl (r := [some (.sh c.eRows), some (.sh c.eVis), some (.sh (.tup (vI c.S p.1))), some (.sh (.tup (vI c.C p.2))), some (.sh (.int s)), some (.sh (.int k)), some (.sh (.int t)), some (.sh (.tup (vI c.C (c.fee k)))), some (.sh (.tup (vI c.C (c.gain k)))), some (.sh (.lst (vI c.C (c.drain k)))), none, none]) ?_ rfl
    have : c.move p s k t = none := by
      unfold Cs.move
      rw [if_neg fun z => z.1 hcell]
    rw [this]
    simp [b__law_pool_move, initE, ix_vis hk]
    simp [Cs.eVi, rng1_ok' (show c.C ≤ 16777216 by omega)]
    rw [hdr _ rfl]
    simp [ix_rows hs, ix_row hk, hcell]
  · obtain ⟨to, hto⟩ := Option.ne_none_iff_exists'.mp hcell
    have htS := ok.cl s k to hto
    by_cases hle : p.1 s < t
    · refine mk0_rt rfl (r := [some (.sh c.eRows), some (.sh c.eVis), some (.sh (.tup (vI c.S p.1))), some (.sh (.tup (vI c.C p.2))), some (.sh (.int s)), some (.sh (.int k)), some (.sh (.int t)), some (.sh (.tup (vI c.C (c.fee k)))), some (.sh (.tup (vI c.C (c.gain k)))), some (.sh (.lst (vI c.C (c.drain k)))), none, none]) ?_ rfl
      have : c.move p s k t = none := by
        unfold Cs.move
        rw [if_neg fun z => by have := z.2.1; omega]
      rw [this]
      simp [b__law_pool_move, initE, ix_vis hk]
      simp [Cs.eVi, rng1_ok' (show c.C ≤ 16777216 by omega)]
      rw [hdr _ rfl]
      simp [ix_rows hs, ix_row hk, hto, atI_vI hs, hle]
    · have hft : ∀ (r : Env) (x11 : Option O), okSlot x11 = true → r = [some (.sh c.eRows), some (.sh c.eVis), some (.sh (.tup (vI c.S p.1))), some (.sh (.tup (vI c.C p.2))), some (.sh (.int s)), some (.sh (.int k)), some (.sh (.int t)), some (.sh (.tup (vI c.C (c.fee k)))), some (.sh (.tup (vI c.C (c.gain k)))), some (.sh (.lst (vI c.C (c.drain k)))), none, x11] →
          compE (gN 11) (t2 (cmpD fun i j => decide (i < j)) (eV (e2 ixD (eVar 3) (eVar 11))) (eV (e2 addD (eV (e2 ixD (eVar 7) (eVar 11))) (eV (e2 mulD (eV (e2 ixD (eVar 9) (eVar 11))) (eV (e2 subD (eVar 6) (eC (.int 1))))))))) ce__law_pool_move_1 [11] (mI c.C fun i => .int i) r =
          .ok (.lst (((List.range c.C).filter fun i => decide (p.2 i < c.fee k i + c.drain k i * (t - 1))).map fun _ => .sh (.int 1))) r := by
        rintro r x11 hx rfl
        exact comp_mIt (fun i => decide (p.2 i < c.fee k i + c.drain k i * (t - 1))) (fun _ => .sh (.int 1)) (by exact hx) (fun i hi => by
          simp [atI_vI hi, (Sm_drain ok k i).mul (Sm_30 (x := t - 1) (by unfold M30; omega) (by omega))]) (fun i hi _ => by simp [ce__law_pool_move_1])
      have hne : neD (.lst (((List.range c.C).filter fun i => decide (p.2 i < c.fee k i + c.drain k i * (t - 1))).map fun _ => .int 1)) (.lst []) =
          some (!decide (∀ i, i < c.C → c.fee k i + c.drain k i * (t - 1) ≤ p.2 i)) := by
        rw [neD_nil (n := 0) (fun x hx => by
          obtain ⟨_, _, rfl⟩ := List.mem_map.mp hx
          exact Pl_int) (by decide), List.isEmpty_map, filt_empty]
        congr 2
        rw [Bool.eq_iff_iff]
        simp
      by_cases hfa : ∀ i, i < c.C → c.fee k i + c.drain k i * (t - 1) ≤ p.2 i
      · have hm : c.move p s k t = some (Cs.goC p.1 s to t, c.goP p.2 k t) := by
          unfold Cs.move
          rw [if_pos ⟨hcell, by omega, hfa⟩, hto]
          rfl
        rw [hm]
        rw [decide_eq_true hfa] at hne
        refine mk0_rt rfl (r := [some (.sh c.eRows), some (.sh c.eVis), some (.sh (.tup (vI c.S p.1))), some (.sh (.tup (vI c.C p.2))), some (.sh (.int s)), some (.sh (.int k)), some (.sh (.int t)), some (.sh (.tup (vI c.C (c.fee k)))), some (.sh (.tup (vI c.C (c.gain k)))), some (.sh (.lst (vI c.C (c.drain k)))), some (.sh (.lst (vI c.S (Cs.goC p.1 s to t)))), none]) ?_ rfl
        have hgo : (vI c.S fun i => if i = to then (if to = s then p.1 s - t else p.1 to) + t else if i = s then p.1 s - t else p.1 i) = vI c.S (Cs.goC p.1 s to t) := vI_congr fun i _ => by
          unfold Cs.goC
          by_cases e : i = to
          · rw [if_pos e, if_pos e, e]
          · rw [if_neg e, if_neg e]
        simp [b__law_pool_move, initE, ix_vis hk]
        simp [Cs.eVi, rng1_ok' (show c.C ≤ 16777216 by omega)]
        rw [hdr _ rfl]
        simp [ix_rows hs, ix_row hk, hto, atI_vI hs, hle, rng1_ok' (show c.C ≤ 16777216 by omega)]
        rw [hft _ _ rfl rfl]
        simp [hne, nums_get hs, ixN_nat hs, nums_set, nums_get htS, ixN_nat htS, ix_rows hs, ix_row hk, hto, hgo, rng1_ok' (show c.C ≤ 16777216 by omega)]
        rw [comp_mI (fun i => .sh (.int (p.2 i + (c.gain k i - c.fee k i) * t))) rfl (by simp) fun i hi => by
          simp [ce__law_pool_move_2, atI_vI hi, (net_Sm ok k i).mul (t_Sm h1 h2)]]
        simp [eSt, Cs.goP, vI, mI]
      · have hm : c.move p s k t = none := by
          unfold Cs.move
          rw [if_neg fun z => hfa z.2.2]
        rw [hm]
        rw [decide_eq_false hfa] at hne
        refine mk0_rt rfl (r := [some (.sh c.eRows), some (.sh c.eVis), some (.sh (.tup (vI c.S p.1))), some (.sh (.tup (vI c.C p.2))), some (.sh (.int s)), some (.sh (.int k)), some (.sh (.int t)), some (.sh (.tup (vI c.C (c.fee k)))), some (.sh (.tup (vI c.C (c.gain k)))), some (.sh (.lst (vI c.C (c.drain k)))), none, none]) ?_ rfl
        simp [b__law_pool_move, initE, ix_vis hk]
        simp [Cs.eVi, rng1_ok' (show c.C ≤ 16777216 by omega)]
        rw [hdr _ rfl]
        simp [ix_rows hs, ix_row hk, hto, atI_vI hs, hle, rng1_ok' (show c.C ≤ 16777216 by omega)]
        rw [hft _ _ rfl rfl]
        simp [hne]
/-! ## _law_plan_end -/
def ePlan (p : List Ln) : D := .tup (p.map eLn)
theorem lpe_step (ok : c.Ok) {q : PS'} {P : List Ln} {l : Ln} {n : Nat} {x7 x8 : Option O} (hn : P[n]? = some l) (hl : c.line M30 l) :
    match c.step q l with
    | none => ∃ r, lb__law_plan_end_0 [some (.sh c.eRows), some (.sh c.ePurse), some (.sh c.eVis), some (.sh (ePlan P)), some (.sh (.tup (vI c.S q.1))), some (.sh (.tup (vI c.C q.2))), some (.sh (.int n)), x7, x8] = .rt (.sh (.tup [.str "stopped", .int n])) r
    | some q' => ∃ u7 u8, lb__law_plan_end_0 [some (.sh c.eRows), some (.sh c.ePurse), some (.sh c.eVis), some (.sh (ePlan P)), some (.sh (.tup (vI c.S q.1))), some (.sh (.tup (vI c.C q.2))), some (.sh (.int n)), x7, x8] =
      .nx [some (.sh c.eRows), some (.sh c.ePurse), some (.sh c.eVis), some (.sh (ePlan P)), some (.sh (.tup (vI c.S q'.1))), some (.sh (.tup (vI c.C q'.2))), some (.sh (.int n)), u7, u8] := by
  have hat : ixD (ePlan P) (.int n) = some (.sh (eLn l)) := by
    unfold ePlan
    rw [ixD_tup, atI_map]
    have hlt := (List.getElem?_eq_some_iff.mp hn).1
    rw [atI_nat' hlt, (List.getElem?_eq_some_iff.mp hn).2]
    rfl
  cases l with
  | come t =>
    obtain ⟨h1, h2⟩ := hl
    refine ⟨some (.sh (eLn (.come t))), x8, ?_⟩
    have hz : Sq (lnP (.come t)) (eLn (.come t)) := .inr rfl
    simp [lb__law_plan_end_0, hat, ix_come0 hz, ix_come1 hz, eq_cc, pool_come_ev ok h1 h2, eSt]
  | visit s k t =>
    obtain ⟨hs, hk, hc, h1, h2⟩ := hl
    have hz : Sq (lnP (.visit s k t)) (eLn (.visit s k t)) := .inr rfl
    have hmv := pool_move_ev ok (p := q) hs hk h1 h2
    simp only [Cs.step]
    cases e : c.move q s k t with
    | none =>
      rw [e] at hmv
      exact ⟨_, by simp [lb__law_plan_end_0, hat, ix_visit0 hz, ix_visit1 hz, ix_visit2 hz, ix_visit3 hz, eq_vc, hmv]; rfl⟩
    | some q' =>
      rw [e] at hmv
      exact ⟨some (.sh (eLn (.visit s k t))), some (.sh (.tup (eSt c q'))), by simp [lb__law_plan_end_0, hat, ix_visit0 hz, ix_visit1 hz, ix_visit2 hz, ix_visit3 hz, eq_vc, hmv]; simp [eSt]⟩
theorem lpe_loop (ok : c.Ok) {P : List Ln} (hl : ∀ l ∈ P, c.line M30 l) : ∀ (p : List Ln) (n : Nat) (q : PS') (x6 x7 x8 : Option O), (∀ i, p[i]? = P[n + i]?) →
    match c.run p n q with
    | .stop m => ∃ r, forL (gN 6) lb__law_plan_end_0 (mI p.length fun i => .int ((n + i : Nat) : Int)) [some (.sh c.eRows), some (.sh c.ePurse), some (.sh c.eVis), some (.sh (ePlan P)), some (.sh (.tup (vI c.S q.1))), some (.sh (.tup (vI c.C q.2))), x6, x7, x8] = .rt (.sh (.tup [.str "stopped", .int m])) r
    | .fin w => ∃ u6 u7 u8, forL (gN 6) lb__law_plan_end_0 (mI p.length fun i => .int ((n + i : Nat) : Int)) [some (.sh c.eRows), some (.sh c.ePurse), some (.sh c.eVis), some (.sh (ePlan P)), some (.sh (.tup (vI c.S q.1))), some (.sh (.tup (vI c.C q.2))), x6, x7, x8] =
      .nx [some (.sh c.eRows), some (.sh c.ePurse), some (.sh c.eVis), some (.sh (ePlan P)), some (.sh (.tup (vI c.S w.1))), some (.sh (.tup (vI c.C w.2))), u6, u7, u8] := by
  intro p
  induction p with
  | nil => intro n q x6 x7 x8 _; exact ⟨x6, x7, x8, rfl⟩
  | cons l p ih =>
    intro n q x6 x7 x8 hp
    have hPn : P[n]? = some l := (hp 0).symm
    have st := lpe_step (x7 := x7) (x8 := x8) (q := q) ok hPn (hl l (List.mem_of_getElem? hPn))
    have eL : mI (l :: p).length (fun i => D.int ((n + i : Nat) : Int)) = .int (n : Int) :: mI p.length fun i => .int ((n + 1 + i : Nat) : Int) := by
      rw [List.length_cons, mI_cons]
      exact congrArg _ (mI_congr fun i _ => by rw [show n + (i + 1) = n + 1 + i by omega])
    rw [eL]
    simp only [Cs.run]
    cases e : c.step q l with
    | none =>
      rw [e] at st
      obtain ⟨r, st⟩ := st
      exact ⟨r, forL_rt rfl st⟩
    | some q' =>
      rw [e] at st
      obtain ⟨u7, u8, st⟩ := st
      have H := ih (n + 1) q' (some (.sh (.int n))) u7 u8 fun i => by
        have := hp (i + 1)
        rw [List.getElem?_cons_succ] at this
        rw [this, show n + (i + 1) = n + 1 + i by omega]
      simp only
      cases e2 : c.run p (n + 1) q' with
      | stop m =>
        rw [e2] at H
        obtain ⟨r, H⟩ := H
        exact ⟨r, (forL_nx rfl st).trans H⟩
      | fin w =>
        rw [e2] at H
        obtain ⟨y6, y7, y8, H⟩ := H
        exact ⟨y6, y7, y8, (forL_nx rfl st).trans H⟩
@[simp] theorem len_plan {P : List Ln} : lenD [ePlan P] = some (.sh (.int P.length)) := by simp [ePlan]
theorem law_plan_end_ev (ok : c.Ok) {P : List Ln} (hl : ∀ l ∈ P, c.line M30 l) (hn : P.length ≤ 1000) : Φ__law_plan_end [.sh c.eRows, .sh c.ePurse, .sh c.eVis, .sh (ePlan P)] = .ok (.sh (eEnd c (c.run P 0 z0))) [.sh c.eRows, .sh c.ePurse, .sh c.eVis, .sh (ePlan P)] := by
  have H := lpe_loop ok hl P 0 z0 none none none fun i => by rw [Nat.zero_add]
  have eL : (mI P.length fun i => D.int ((0 + i : Nat) : Int)) = mI P.length fun i => .int (i : Int) := mI_congr fun i _ => by rw [Nat.zero_add]
  rw [eL] at H
  cases e : c.run P 0 z0 with
  | stop m =>
    rw [e] at H
    obtain ⟨r, H⟩ := H
    refine mk0_rt rfl (r := r) ?_ rfl
    simp [b__law_plan_end, initE, zmul_tupS ok, zmul_tup ok, rng1_ok' (show P.length ≤ 16777216 by omega)]
    unfold z0 at H
    rw [H]
    rfl
  | fin q =>
    rw [e] at H
    obtain ⟨x6, x7, x8, H⟩ := H
    refine mk0_rt rfl (r := [some (.sh c.eRows), some (.sh c.ePurse), some (.sh c.eVis), some (.sh (ePlan P)), some (.sh (.tup (vI c.S q.1))), some (.sh (.tup (vI c.C q.2))), x6, x7, x8]) ?_ rfl
    simp [b__law_plan_end, initE, zmul_tupS ok, zmul_tup ok, rng1_ok' (show P.length ≤ 16777216 by omega)]
    unfold z0 at H
    rw [H]
    simp [eEnd]
end
end Tk

set_option Elab.async false
set_option linter.all false
set_option maxRecDepth 100000
set_option maxHeartbeats 4000000
namespace Tk
open PySem PySem.Spec PyProof.Rows L2
@[simp] theorem sFldS_ev {cs : List Nat} {i : Nat} {n : Str} {f : Env → Res D} {ρ : Env} : sFldS cs i n f ρ = sB (f ρ) fun d r => match slot r i with
  | some (.ins c fs) => if c ∈ cs ∧ fs.length < 1000 then .nx (r.set i (some (.ins c (putO n (.sh d) fs)))) else .no
  | _ => .no := rfl
@[simp] theorem eMake_ev {c : Nat} {Φ : List O → FRes} {dds : List D} {f : Env → Res (List D)} {ρ : Env} : eMake c Φ dds f ρ = (f ρ).bind fun ds r => makeA c Φ dds ds r := rfl
theorem makeA_ok {c : Nat} {Φ : List O → FRes} {dds ds : List D} {r : Env} {o : O} {os : List O} (h : Φ (.ins c [] :: (ds ++ dds).map O.sh) = .ok (.sh .non) (o :: os)) : makeA c Φ dds ds r = .ok o r := by
  unfold makeA
  rw [h]
theorem Fa2.mI {R : D → D → Prop} {f : Nat → D} : ∀ {n : Nat} {ys : List D}, Fa2 R (mI n f) ys → ∃ g, ys = Tk.mI n g ∧ ∀ i, i < n → R (f i) (g i) := by
  intro n ys h
  have hl := Fa2.length h
  rw [mI_len] at hl
  refine ⟨fun i => ys.getD i .non, by rw [hl]; exact mI_of ys .non, fun i hi => ?_⟩
  have : ys[i]? = some (ys.getD i .non) := by
    rw [List.getD_eq_getElem?_getD, List.getElem?_eq_getElem (by omega)]
    rfl
  obtain ⟨x, e, r⟩ := h.get this
  rw [mI_get hi] at e
  cases e
  exact r
theorem LsN_at {n : Nat} {d d' : D} (h : LsN (n + 1) d d') (ha : atomD d = true) : d' = d := by
  cases d <;> first | exact h | cases ha
theorem atom_op {o : Option Nat} : atomD (eOp o) = true := by cases o <;> rfl
theorem LsN_mI {n m : Nat} {f : Nat → D} {d' : D} (h : LsN (n + 2) (.tup (mI m f)) d') (ha : ∀ i, i < m → atomD (f i) = true) : Sq (mI m f) d' := by
  obtain ⟨ys, hs, hf⟩ := h
  obtain ⟨g, rfl, hg⟩ := hf.mI
  have : mI m g = mI m f := mI_congr fun i hi => LsN_at (hg i hi) (ha i hi)
  rw [← this]
  exact hs
theorem dp_mI {n m : Nat} {f : Nat → D} (hm : m ≤ 1000) (h : ∀ i, i < m → dp n (f i)) : dp (n + 1) (.tup (mI m f)) := by
  refine ⟨by rw [mI_len]; exact hm, fun x hx => ?_⟩
  obtain ⟨i, hi, rfl⟩ := mem_mI hx
  exact h i hi
theorem dp_at {n : Nat} {d : D} (h : atomD d = true) : dp (n + 1) d := by
  cases d <;> first | exact h | cases h
section
variable {c : Cs}
theorem dp_vI {n m : Nat} {f : Nat → Int} (hm : m ≤ 1000) : dp (n + 2) (.tup (vI m f)) := dp_mI hm fun i _ => dp_at rfl
theorem dp_rows (ok : c.Ok) {n : Nat} : dp (n + 3) c.eRows := dp_mI (by have := ok.S1; omega) fun s _ => dp_mI (by have := ok.K1; omega) fun k _ => dp_at atom_op
theorem dp_purse (ok : c.Ok) {n : Nat} : dp (n + 2) c.ePurse := dp_vI (by have := ok.C1; omega)
theorem dp_two {n : Nat} {a b : D} (ha : dp n a) (hb : dp n b) : dp (n + 1) (.tup [a, b]) := ⟨by show 2 ≤ 1000; decide, fun x hx => by
  rcases List.mem_cons.mp hx with rfl | hx
  · exact ha
  · rcases List.mem_cons.mp hx with rfl | hx
    · exact hb
    · cases hx⟩
theorem dp_vis (ok : c.Ok) {n : Nat} : dp (n + 4) c.eVis := dp_mI (by have := ok.K1; omega) fun k _ => dp_two (dp_vI (by have := ok.C1; omega)) (dp_vI (by have := ok.C1; omega))
/-! ## Book(..) -/
theorem row_ok (ok : c.Ok) {s : Nat} {y : D} (hs : s < c.S) (hy : Sq (mI c.K fun k => eOp (c.cell s k)) y) {x5 : Option O} (hx : okSlot x5 = true) {d : D} {x0 x1 x3 : Option O} (hd : lenD [d] = some (.sh (.int c.S))) :
    compE (gN 5) tTrue ce_Book___init___0 [5] (mI c.K fun k => eOp (c.cell s k)) [x0, x1, some (.sh d), x3, some (.sh y), x5] = .ok (.lst ((mI c.K fun _ => .bl true).map O.sh)) [x0, x1, some (.sh d), x3, some (.sh y), x5] := by
  rw [comp_mI (fun k => .sh (.bl true)) (by exact hx) (by simp) fun k hk => by
    cases e : c.cell s k with
    | none => simp [ce_Book___init___0, e]
    | some n =>
      have := is_below_nat (ok.cl s k n e)
      simp [ce_Book___init___0, e, hd, this]]
  simp [mI]
theorem book_init_ev (ok : c.Ok) {d : D} {y : Nat → D} (hd : Sq (mI c.S y) d) (hy : ∀ s, s < c.S → Sq (mI c.K fun k => eOp (c.cell s k)) (y s)) :
    Φ_Book___init__ [.ins 0 [], .sh (.int c.K), .sh d] = .ok (.sh .non) [.ins 0 [("kinds", .sh (.int c.K)), ("rows", .sh c.eRows)], .sh (.int c.K), .sh d] := by
  have H := forL_inv (b := gT (gC (gN 3) (gC (gN 4) gE))) (body := lb_Book___init___0) (fun _ ρ => ∃ x3 x4, ρ = [some (.ins 0 []), some (.sh (.int c.K)), some (.sh d), x3, x4, none] ∧ okSlot x4 = true) (enumL 0 (mI c.S y)) 0
    (ρ := [some (.ins 0 []), some (.sh (.int c.K)), some (.sh d), none, none, none]) ⟨none, none, rfl, rfl⟩ (by
      rintro i e ρ he ⟨x3, x4, rfl, h4⟩
      rw [enumL_mI] at he
      obtain ⟨hi, rfl⟩ : i < c.S ∧ e = .tup [.int ((0 + i : Nat) : Int), y i] := by
        by_cases hi : i < c.S
        · rw [mI_get hi] at he
          exact ⟨hi, (Option.some.inj he).symm⟩
        · rw [List.getElem?_eq_none (by simp; omega)] at he
          cases he
      have hyi := hy i hi
      refine ⟨_, _, rfl, .inl ?_, some (.sh (.int ((0 + i : Nat) : Int))), some (.sh (y i)), rfl, rfl⟩
      have hl : (mI c.K fun k => eOp (c.cell i k)).length = c.K := by simp
      simp [lb_Book___init___0, is_row_ev hyi, seqd_sq hyi]
      rw [row_ok ok hi hyi rfl (by rw [len_sq hd, mI_len])]
      simp [allD_mI (b := fun _ => true)])
  obtain ⟨r, e, x3, x4, rfl, h4⟩ := H
  refine mk0_nx rfl (r := [some (.ins 0 [("kinds", .sh (.int c.K)), ("rows", .sh c.eRows)]), some (.sh (.int c.K)), some (.sh d), x3, x4, none]) ?_ rfl
  have hK0 := ok.K0
  have hK1 := ok.K1
  have hS0 := ok.S0
  have hS1 := ok.S1
  have b1 : Φ_is_between [.sh (.int c.K), .sh (.int 1), .sh (.int 6)] = .ok (.sh (.bl true)) [.sh (.int c.K), .sh (.int 1), .sh (.int 6)] := by
    rw [is_between_ev, decide_eq_true (show (1 : Int) ≤ c.K by omega), decide_eq_true (show (c.K : Int) ≤ 6 by omega)]
    rfl
  have b2 : Φ_is_between [.sh (.int c.S), .sh (.int 1), .sh (.int 40)] = .ok (.sh (.bl true)) [.sh (.int c.S), .sh (.int 1), .sh (.int 40)] := by
    rw [is_between_ev, decide_eq_true (show (1 : Int) ≤ c.S by omega), decide_eq_true (show (c.S : Int) ≤ 40 by omega)]
    rfl
  have hcomp : ∀ (fs : List (Str × O)), compE (gN 4) tTrue ce_Book___init___1 [4] (mI c.S y) [some (.ins 0 fs), some (.sh (.int c.K)), some (.sh d), x3, x4, none] =
      .ok (.lst ((mI c.S fun s => .tup (mI c.K fun k => eOp (c.cell s k))).map O.sh)) [some (.ins 0 fs), some (.sh (.int c.K)), some (.sh d), x3, x4, none] := fun fs => by
    rw [comp_mI (fun s => .sh (.tup (mI c.K fun k => eOp (c.cell s k)))) (by exact h4) (by simp) fun s hs => by simp [ce_Book___init___1, tupOf_sq (hy s hs)]]
    simp [mI]
  simp [b_Book___init__, initE, b1, is_sequence_sq hd, len_sq hd, b2, enum1_sq hd, e]
  have p1 : putO "kinds" (.sh (.int c.K)) [] = ([("kinds", .sh (.int c.K))] : List (Str × O)) := rfl
  simp [p1, seqd_sq hd]
  rw [hcomp]
  simp
  rfl
theorem law_book_ev (ok : c.Ok) {b : O} (hb : IsBox b) : ∃ b', IsBox b' ∧ Φ__law_book [b, .sh c.eRows] = .ok (.ins 0 [("kinds", .sh (.int c.K)), ("rows", .sh c.eRows)]) [b', .sh c.eRows] := by
  obtain ⟨d', b', hb', hl, e⟩ := loose_ev 6 c.eRows (dp_rows ok) hb
  refine ⟨b', hb', ?_⟩
  obtain ⟨ys, hs, hf⟩ := hl
  obtain ⟨y, rfl, hy⟩ := hf.mI
  have hi := book_init_ev ok hs fun s h => LsN_mI (hy s h) fun k _ => atom_op
  have h0 : ixD c.eRows (.int 0) = some (.sh (.tup (mI c.K fun k => eOp (c.cell 0 k)))) := ix_rows (s := 0) ok.S0
  refine mk0_rt rfl (r := [some b', some (.sh c.eRows)]) ?_ rfl
  simp [b__law_book, initE, h0, e, makeA_ok (dds := []) (ds := [.int c.K, d']) hi]
/-! ## Doors(..) -/
theorem is_tickets_ev {n : Nat} {f : Nat → Int} {d : D} (hd : Sq (vI n f) d) (hf : ∀ i, i < n → 0 ≤ f i ∧ f i ≤ M18) : Φ_is_tickets [.sh d, .sh (.int n)] = .ok (.sh (.bl true)) [.sh d, .sh (.int n)] := by
  refine mk0_rt rfl (r := [some (.sh d), some (.sh (.int n)), none]) ?_ rfl
  simp [b_is_tickets, initE, is_row_ev hd, seqd_sq hd]
  rw [vI, comp_mI (fun _ => .sh (.bl true)) rfl (by simp) fun i hi => by
    have h := hf i hi
    have b1 : Φ_is_between [.sh (.int (f i)), .sh (.int 0), .sh (.int 1000000000000000000)] = .ok (.sh (.bl true)) [.sh (.int (f i)), .sh (.int 0), .sh (.int 1000000000000000000)] := by
      rw [is_between_ev, decide_eq_true h.1, decide_eq_true (show f i ≤ 1000000000000000000 from h.2)]
      rfl
    simp [ce_is_tickets_0, b1]]
  simp
theorem ix_two {a b d : D} (h : Sq [a, b] d) : ixD d (.int 0) = some (.sh a) ∧ ixD d (.int 1) = some (.sh b) := ⟨ix_sq h 0, ix_sq h 1⟩
theorem is_visit_ev {n : Nat} {f g : Nat → Int} {a b d : D} (hd : Sq [a, b] d) (ha : Sq (vI n f) a) (hb : Sq (vI n g) b) (hf : ∀ i, i < n → 0 ≤ f i ∧ f i ≤ M18) (hg : ∀ i, i < n → 0 ≤ g i ∧ g i ≤ M18) :
    Φ_is_visit [.sh d, .sh (.int n)] = .ok (.sh (.bl true)) [.sh d, .sh (.int n)] := by
  refine mk0_rt rfl (r := [some (.sh d), some (.sh (.int n))]) ?_ rfl
  simp [b_is_visit, initE, is_row_ev hd, (ix_two hd).1, (ix_two hd).2, is_tickets_ev ha hf, is_tickets_ev hb hg]
theorem doors_init_ev (ok : c.Ok) {dp dv : D} {y f g : Nat → D} (hp : Sq (vI c.C c.purse) dp) (hv : Sq (mI c.K y) dv) (hy : ∀ k, k < c.K → Sq [f k, g k] (y k) ∧ Sq (vI c.C (c.fee k)) (f k) ∧ Sq (vI c.C (c.gain k)) (g k)) :
    Φ_Doors___init__ [.ins 1 [], .sh dp, .sh dv] = .ok (.sh .non) [.ins 1 [("purse", .sh c.ePurse), ("visits", .sh c.eVis)], .sh dp, .sh dv] := by
  have H := forL_inv (b := gT (gC (gN 3) (gC (gN 4) gE))) (body := lb_Doors___init___0) (fun _ ρ => ∃ x3 x4, ρ = [some (.ins 1 []), some (.sh dp), some (.sh dv), x3, x4, none, none, none]) (enumL 0 (vI c.C c.purse)) 0
    (ρ := [some (.ins 1 []), some (.sh dp), some (.sh dv), none, none, none, none, none]) ⟨none, none, rfl⟩ (by
      rintro i e ρ he ⟨x3, x4, rfl⟩
      rw [vI, enumL_mI] at he
      obtain ⟨hi, rfl⟩ : i < c.C ∧ e = .tup [.int ((0 + i : Nat) : Int), .int (c.purse i)] := by
        by_cases hi : i < c.C
        · rw [mI_get hi] at he
          exact ⟨hi, (Option.some.inj he).symm⟩
        · rw [List.getElem?_eq_none (by simp; omega)] at he
          cases he
      have h := ok.pu i
      have b1 : Φ_is_between [.sh (.int (c.purse i)), .sh (.int 0), .sh (.int 1000000000000000000)] = .ok (.sh (.bl true)) [.sh (.int (c.purse i)), .sh (.int 0), .sh (.int 1000000000000000000)] := by
        rw [is_between_ev, decide_eq_true h.1, decide_eq_true (show c.purse i ≤ 1000000000000000000 from h.2)]
        rfl
      exact ⟨_, _, rfl, .inl (by simp [lb_Doors___init___0, b1]), some (.sh (.int ((0 + i : Nat) : Int))), some (.sh (.int (c.purse i))), rfl⟩)
  obtain ⟨r, e, x3, x4, rfl⟩ := H
  have H2 := forL_inv (b := gT (gC (gN 3) (gC (gN 5) gE))) (body := lb_Doors___init___1) (fun _ ρ => ∃ x3 x5, ρ = [some (.ins 1 []), some (.sh dp), some (.sh dv), x3, x4, x5, none, none]) (enumL 0 (mI c.K y)) 0
    (ρ := [some (.ins 1 []), some (.sh dp), some (.sh dv), x3, x4, none, none, none]) ⟨x3, none, rfl⟩ (by
      rintro i e ρ he ⟨x3, x5, rfl⟩
      rw [enumL_mI] at he
      obtain ⟨hi, rfl⟩ : i < c.K ∧ e = .tup [.int ((0 + i : Nat) : Int), y i] := by
        by_cases hi : i < c.K
        · rw [mI_get hi] at he
          exact ⟨hi, (Option.some.inj he).symm⟩
        · rw [List.getElem?_eq_none (by simp; omega)] at he
          cases he
      obtain ⟨h1, h2, h3⟩ := hy i hi
      exact ⟨_, _, rfl, .inl (by simp [lb_Doors___init___1, len_sq hp, is_visit_ev h1 h2 h3 (fun i _ => ok.fe _ i) (fun i _ => ok.ga _ i)]), some (.sh (.int ((0 + i : Nat) : Int))), some (.sh (y i)), rfl⟩)
  obtain ⟨r, e2, x3', x5, rfl⟩ := H2
  refine mk0_nx rfl (r := [some (.ins 1 [("purse", .sh c.ePurse), ("visits", .sh c.eVis)]), some (.sh dp), some (.sh dv), x3', x4, x5, none, none]) ?_ rfl
  have hK0 := ok.K0
  have hK1 := ok.K1
  have hC1 := ok.C1
  have b1 : Φ_is_between [.sh (.int c.K), .sh (.int 1), .sh (.int 6)] = .ok (.sh (.bl true)) [.sh (.int c.K), .sh (.int 1), .sh (.int 6)] := by
    rw [is_between_ev, decide_eq_true (show (1 : Int) ≤ c.K by omega), decide_eq_true (show (c.K : Int) ≤ 6 by omega)]
    rfl
  have hlt : ¬ (60 : Int) < c.C := by omega
  have hcomp : ∀ (fs : List (Str × O)), compE (gTL (gC (gN 6) (gC (gN 7) gE))) tTrue ce_Doors___init___0 [6, 7] (mI c.K y) [some (.ins 1 fs), some (.sh dp), some (.sh dv), x3', x4, x5, none, none] =
      .ok (.lst ((mI c.K c.eVi).map O.sh)) [some (.ins 1 fs), some (.sh dp), some (.sh dv), x3', x4, x5, none, none] := fun fs => by
    rw [comp_mI2L (h1 := f) (h2 := g) (fun k hk => seqLT_sq (hy k hk).1) (fun k => .sh (c.eVi k)) rfl rfl (by decide) fun k hk => by
      simp [ce_Doors___init___0, tupOf_sq (hy k hk).2.1, tupOf_sq (hy k hk).2.2, Cs.eVi]]
    simp [mI]
  simp [b_Doors___init__, initE, is_sequence_sq hp, len_sq hp, hlt, enum1_sq hp, e, is_sequence_sq hv, len_sq hv, b1, enum1_sq hv, e2, tupOf_sq hp]
  have p1 : putO "purse" (.sh (.tup (vI c.C c.purse))) [] = ([("purse", .sh c.ePurse)] : List (Str × O)) := rfl
  simp [p1, seqd_sq hv]
  rw [hcomp]
  simp
  rfl
theorem law_doors_ev (ok : c.Ok) {b : O} (hb : IsBox b) : ∃ b', IsBox b' ∧ Φ__law_doors [b, .sh c.ePurse, .sh c.eVis] = .ok (.ins 1 [("purse", .sh c.ePurse), ("visits", .sh c.eVis)]) [b', .sh c.ePurse, .sh c.eVis] := by
  obtain ⟨d', b1, hb1, hl, e⟩ := loose_ev 6 c.ePurse (dp_purse ok) hb
  obtain ⟨d2, b2, hb2, hl2, e2⟩ := loose_ev 6 c.eVis (dp_vis ok) hb1
  refine ⟨b2, hb2, ?_⟩
  have hs := LsN_mI hl fun i _ => rfl
  obtain ⟨ys, hs2, hf⟩ := hl2
  obtain ⟨y, rfl, hy⟩ := hf.mI
  have key : ∀ k, k < c.K → ∃ f g, Sq [f, g] (y k) ∧ Sq (vI c.C (c.fee k)) f ∧ Sq (vI c.C (c.gain k)) g := by
    intro k hk
    obtain ⟨zs, hz, hzf⟩ := hy k hk
    cases hzf with
    | cons ha t =>
      cases t with
      | cons hb t =>
        cases t
        exact ⟨_, _, hz, LsN_mI ha fun i _ => rfl, LsN_mI hb fun i _ => rfl⟩
  have hi := doors_init_ev (f := fun k => if h : k < c.K then (key k h).choose else .non) (g := fun k => if h : k < c.K then (key k h).choose_spec.choose else .non) ok hs hs2 fun k hk => by
    rw [dif_pos hk, dif_pos hk]
    exact (key k hk).choose_spec.choose_spec
  refine mk0_rt rfl (r := [some b2, some (.sh c.ePurse), some (.sh c.eVis)]) ?_ rfl
  simp [b__law_doors, initE, e, e2, makeA_ok (dds := []) (ds := [d', d2]) hi]
theorem is_book_ev (ok : c.Ok) : Φ__law_is_book [.sh c.eBook, .sh c.eRows] = .ok (.sh (.bl true)) [.sh c.eBook, .sh c.eRows] := by
  have h0 : ixD c.eRows (.int 0) = some (.sh (.tup (mI c.K fun k => eOp (c.cell 0 k)))) := ix_rows (s := 0) ok.S0
  refine mk0_rt rfl (r := [some (.sh c.eBook), some (.sh c.eRows)]) ?_ rfl
  simp [b__law_is_book, initE, h0, same_ev 6 (.int c.K) (dp_at rfl), same_ev 6 c.eRows (dp_rows ok)]
theorem are_doors_ev (ok : c.Ok) : Φ__law_are_doors [.sh c.eDoors, .sh c.ePurse, .sh c.eVis] = .ok (.sh (.bl true)) [.sh c.eDoors, .sh c.ePurse, .sh c.eVis] := by
  refine mk0_rt rfl (r := [some (.sh c.eDoors), some (.sh c.ePurse), some (.sh c.eVis)]) ?_ rfl
  simp [b__law_are_doors, initE, same_ev 6 c.ePurse (dp_purse ok), same_ev 6 c.eVis (dp_vis ok)]
end
end Tk

set_option Elab.async false
set_option linter.all false
set_option maxRecDepth 100000
set_option maxHeartbeats 4000000
namespace Tk
open PySem PySem.Spec PyProof.Rows L2
theorem atom_lnP : ∀ {l : Ln} {x : D}, x ∈ lnP l → atomD x = true
  | .come t, x, h => by
    simp [lnP] at h
    rcases h with rfl | rfl
    · decide +kernel
    · rfl
  | .visit s k t, x, h => by
    simp [lnP] at h
    rcases h with rfl | rfl | rfl | rfl
    · decide +kernel
    · rfl
    · rfl
    · rfl
theorem lnP_len {l : Ln} : (lnP l).length ≤ 4 := by cases l <;> simp [lnP]
theorem dp_ln {n : Nat} {l : Ln} : dp (n + 2) (eLn l) := ⟨by have := @lnP_len l; omega, fun x hx => dp_at (atom_lnP hx)⟩
theorem dp_plan {n : Nat} {p : List Ln} (h : p.length ≤ 1000) : dp (n + 3) (ePlan p) := ⟨by simpa using h, fun x hx => by
  obtain ⟨l, _, rfl⟩ := List.mem_map.mp hx
  exact dp_ln⟩
theorem LsN_ats {n : Nat} : ∀ {xs ys : List D}, (∀ x ∈ xs, atomD x = true) → Fa2 (LsN (n + 1)) xs ys → ys = xs
  | _, _, _, .nil => rfl
  | _, _, h, .cons a t => by
    rw [LsN_at a (h _ List.mem_cons_self), LsN_ats (fun x hx => h x (List.mem_cons_of_mem _ hx)) t]
theorem LsN_ln {n : Nat} {l : Ln} {d : D} (h : LsN (n + 2) (eLn l) d) : Sq (lnP l) d := by
  obtain ⟨ys, hs, hf⟩ := h
  rw [LsN_ats (fun x hx => atom_lnP hx) hf] at hs
  exact hs
theorem LsN_lns {n : Nat} : ∀ {p : List Ln} {ys : List D}, Fa2 (LsN (n + 2)) (p.map eLn) ys → Fa2 (fun l y => Sq (lnP l) y) p ys
  | [], _, .nil => .nil
  | l :: p, _, .cons a t => .cons (LsN_ln a) (LsN_lns t)
theorem loose_plan {p : List Ln} {b : O} (hp : p.length ≤ 1000) (hb : IsBox b) : ∃ d' b', IsBox b' ∧ LPlan p d' ∧ Φ__law_loose 6 [b, .sh (ePlan p)] = .ok (.sh d') [b', .sh (ePlan p)] := by
  obtain ⟨d', b', hb', ⟨ys, hs, hf⟩, e⟩ := loose_ev 6 (ePlan p) (dp_plan hp) hb
  exact ⟨d', b', hb', ⟨ys, hs, LsN_lns hf⟩, e⟩
theorem LPlan_refl : ∀ {p : List Ln}, LPlan p (ePlan p) := by
  intro p
  refine ⟨p.map eLn, .inr rfl, ?_⟩
  induction p with
  | nil => exact .nil
  | cons l p ih => exact .cons (.inr rfl) ih
section
variable {c : Cs}
theorem shaped_let : atomD (.str "let") = true := by decide +kernel
theorem shaped_stopped : atomD (.str "stopped") = true := by decide +kernel
theorem dp_end (ok : c.Ok) {e : End} : dp 6 (eEnd c e) := by
  cases e with
  | stop n => exact dp_two (dp_at shaped_stopped) (dp_at rfl)
  | fin p =>
    refine ⟨by show 3 ≤ 1000; decide, fun x hx => ?_⟩
    have hS := ok.S1
    have hC := ok.C1
    rcases List.mem_cons.mp hx with rfl | hx
    · exact dp_at shaped_let
    · rcases List.mem_cons.mp hx with rfl | hx
      · exact dp_vI (by omega)
      · rcases List.mem_cons.mp hx with rfl | hx
        · exact dp_vI (by omega)
        · cases hx
/-! ## so many times over -/
def Ln.t : Ln → Int
  | .come t => t
  | .visit _ _ t => t
theorem lnP_split {l : Ln} : ∃ xs, lnP l = xs ++ [.int l.t] ∧ ∀ f, lnP (l.mul f) = xs ++ [.int (l.t * f)] := by
  cases l with
  | come t => exact ⟨[.str "come"], rfl, fun f => rfl⟩
  | visit s k t => exact ⟨[.str "visit", .int s, .int k], rfl, fun f => rfl⟩
theorem atI_last {α : Type} {xs : List α} {x : α} : atI (xs ++ [x]) (-1) = some x := by
  unfold atI ixN
  rw [List.length_append, List.length_singleton]
  simp only [show ¬ (0 : Int) ≤ -1 by decide, if_false]
  have h1 : (-1 : Int) + ((xs.length + 1 : Nat) : Int) = (xs.length : Int) := by omega
  rw [h1, if_pos (by omega), Int.toNat_natCast]
  show (xs ++ [x])[xs.length]? = _
  simp
theorem comp_xs {α : Type} {ρ : Env} {el : Env → Res O} {v : Nat} {xs : List α} {enc : α → D} (g : α → O) (hs : okSlot (slot ρ v) = true)
    (he : ∀ x ∈ xs, el (ρ.set v (some (.sh (enc x)))) = .ok (g x) (ρ.set v (some (.sh (enc x))))) : compE (gN v) tTrue el [v] (xs.map enc) ρ = .ok (.lst (xs.map g)) ρ := by
  unfold compE
  rw [if_pos (by simp [hs]), show wipeE ρ [v] = ρ.set v none from rfl]
  have key : ∀ ys : List α, (∀ y ∈ ys, y ∈ xs) → compL (gN v) tTrue el [v] (ys.map enc) (ρ.set v none) = .ok (ys.map g) (ρ.set v none) := by
    intro ys
    induction ys with
    | nil => intro _; rfl
    | cons x ys ih =>
      intro hx
      have e1 := he x (hx x List.mem_cons_self)
      have e2 := ih fun i hi => hx i (List.mem_cons_of_mem _ hi)
      simp only [List.map_cons]
      unfold compL
      simp only [gN_ev, List.set_set, tTrue_ev, Res.bind_ok, if_true, e1]
      rw [show wipeE (ρ.set v (some (.sh (enc x)))) [v] = ρ.set v none by simp [wipeE], e2]
      rfl
  rw [key _ fun _ h => h]
  simp only
  rw [show restE ρ [v] (ρ.set v none) = ρ from rest1]
theorem times_over_ev {p : List Ln} {f : Int} (hf : Sm f) (ht : ∀ l ∈ p, Sm l.t) : Φ__law_times_over [.sh (ePlan p), .sh (.int f)] = .ok (.sh (ePlan (p.map (Ln.mul f)))) [.sh (ePlan p), .sh (.int f)] := by
  refine mk0_rt rfl (r := [some (.sh (ePlan p)), some (.sh (.int f)), none]) ?_ rfl
  have hc : compE (gN 2) tTrue ce__law_times_over_0 [2] (p.map eLn) [some (.sh (ePlan p)), some (.sh (.int f)), none] = .ok (.lst ((p.map fun l => eLn (l.mul f)).map O.sh)) [some (.sh (ePlan p)), some (.sh (.int f)), none] := by
    rw [comp_xs (fun l => .sh (eLn (l.mul f))) rfl fun l hl => by
      obtain ⟨xs, e1, e2⟩ := lnP_split (l := l)
      have hm := (ht l hl).mul hf
      have hlen : xs.length ≤ 4 := by
        have := @lnP_len l
        rw [e1, List.length_append] at this
        omega
      unfold eLn
      rw [e1, e2]
      simp [ce__law_times_over_0, cut_last, atI_last, hm, addD_tup (xs := xs) (ys := [.int (l.t * f)]) (by simp; omega)]]
    simp
  have hs : seq? (ePlan p) = some (p.map eLn) := rfl
  simp [b__law_times_over, initE, hs, hc]
  simp [ePlan]
/-! ## a plan turned -/
theorem mixed_ev {p : List Ln} {b : O} (hb : IsBox b) (hp : p.length ≤ 1000) : ∃ (q : List Ln) (b' : O), IsBox b' ∧ q.length = p.length ∧ (∀ l ∈ q, l ∈ p) ∧ Φ__law_mixed [b, .sh (ePlan p)] = .ok (.sh (.lst (q.map eLn))) [b', .sh (ePlan p)] := by
  have H := forL_inv (b := gN 3) (body := lb__law_mixed_0) (fun _ ρ => ∃ (b : O) (q : List Ln) (x3 x4 x5 : Option O), IsBox b ∧ ρ = [some b, some (.sh (ePlan p)), some (.lst ((q.map eLn).map O.sh)), x3, x4, x5] ∧ q.length = p.length ∧ ∀ l ∈ q, l ∈ p) (mI p.length fun i => .int i) 0
    (ρ := [some b, some (.sh (ePlan p)), some (.lst ((p.map eLn).map O.sh)), none, none, none]) ⟨b, p, none, none, none, hb, rfl, rfl, fun _ h => h⟩ (by
      rintro i d ρ hd ⟨b, q, x3, x4, x5, hb, rfl, hl, hm⟩
      obtain ⟨hi, rfl⟩ : i < p.length ∧ d = .int (i : Int) := by
        by_cases hi : i < p.length
        · rw [mI_get hi] at hd
          exact ⟨hi, (Option.some.inj hd).symm⟩
        · rw [List.getElem?_eq_none (by simp; omega)] at hd
          cases hd
      obtain ⟨v, b2, h0, h1, hb2, e⟩ := take_ev (many := (p.length : Int) - i) hb (by omega)
      obtain ⟨j, hj⟩ : ∃ j : Nat, (i : Int) + v = j := ⟨((i : Int) + v).toNat, by omega⟩
      have hjl : j < q.length := by omega
      have hil : i < q.length := by omega
      have g1 : atI (q.map (O.sh ∘ eLn)) (i : Int) = some (.sh (eLn q[i])) := by
        rw [atI_map, atI_nat' hil]; rfl
      have g2 : atI (q.map (O.sh ∘ eLn)) (j : Int) = some (.sh (eLn q[j])) := by
        rw [atI_map, atI_nat' hjl]; rfl
      refine ⟨_, [some b2, some (.sh (ePlan p)), some (.lst ((((q.set i q[j]).set j q[i]).map eLn).map O.sh)), some (.sh (.int (i : Int))), some (.sh (.int (j : Int))), some (.sh (eLn q[i]))], rfl, .inl ?_,
        b2, (q.set i q[j]).set j q[i], _, _, _, hb2, rfl, by simp [hl], fun l hl' => ?_⟩
      · simp [lb__law_mixed_0, ePeek_ev, eView, hl, e, scal', hj, g1, g2, ixN_nat (show i < p.length by omega), ixN_nat (show j < p.length by omega), List.map_set]
      · rcases List.mem_or_eq_of_mem_set hl' with h | rfl
        · rcases List.mem_or_eq_of_mem_set h with h | rfl
          · exact hm l h
          · exact hm _ (List.getElem_mem hjl)
        · exact hm _ (List.getElem_mem hil))
  obtain ⟨r, e, b', q, x3, x4, x5, hb', rfl, hl, hm⟩ := H
  refine ⟨q, b', hb', hl, hm, ?_⟩
  refine mk0_rt rfl (r := [some b', some (.sh (ePlan p)), some (.sh (.lst (q.map eLn))), x3, x4, x5]) ?_ rfl
  have hs : lstOf [ePlan p] = some (.lst ((p.map eLn).map O.sh)) := rfl
  simp at e
  simp [b__law_mixed, initE, hs, eView, scal', rng1_ok' (show p.length ≤ 16777216 by omega), e]
def Ln.withT (u : Int) : Ln → Ln
  | .come _ => .come u
  | .visit s k _ => .visit s k u
theorem lnP_with {l : Ln} : ∃ xs, lnP l = xs ++ [.int l.t] ∧ ∀ u, lnP (l.withT u) = xs ++ [.int u] := by
  cases l with
  | come t => exact ⟨[.str "come"], rfl, fun f => rfl⟩
  | visit s k t => exact ⟨[.str "visit", .int s, .int k], rfl, fun f => rfl⟩
theorem line_mono {m m' : Int} (h : m ≤ m') {l : Ln} (hl : c.line m l) : c.line m' l := by
  cases l with
  | come t => exact ⟨hl.1, Int.le_trans hl.2 h⟩
  | visit s k t => exact ⟨hl.1, hl.2.1, hl.2.2.1, hl.2.2.2.1, Int.le_trans hl.2.2.2.2 h⟩
theorem line_t {m : Int} {l : Ln} (hl : c.line m l) : 1 ≤ l.t ∧ l.t ≤ m := by
  cases l with
  | come t => exact hl
  | visit s k t => exact hl.2.2.2
theorem line_with {m m' u : Int} {l : Ln} (hl : c.line m l) (h1 : 1 ≤ u) (h2 : u ≤ m') : c.line m' (l.withT u) := by
  cases l with
  | come t => exact ⟨h1, h2⟩
  | visit s k t => exact ⟨hl.1, hl.2.1, hl.2.2.1, h1, h2⟩
theorem plan_at {p : List Ln} {n : Nat} (h : n < p.length) : ixD (ePlan p) (.int n) = some (.sh (eLn p[n])) := by
  unfold ePlan
  rw [ixD_tup, atI_map, atI_nat' h]
  rfl
@[simp] theorem sl_plan {p : List Ln} {l h : Option Int} : slD (ePlan p) l h = some (.sh (.tup (cutD (p.map eLn) l h))) := rfl
theorem turned_ev {p : List Ln} {b : O} {m : Int} (hb : IsBox b) (h0 : p ≠ []) (hp : p.length ≤ 1000) (hl : ∀ l ∈ p, c.line m l) : ∃ (q : List Ln) (b' : O), IsBox b' ∧ q.length ≤ p.length ∧ (∀ l ∈ q, c.line (m + 3) l) ∧ Φ__law_turned_plan [b, .sh (ePlan p)] = .ok (.sh (ePlan q)) [b', .sh (ePlan p)] := by
  have hpos : 0 < p.length := List.length_pos_iff.mpr h0
  obtain ⟨v, b1, v0, v1, hb1, e1⟩ := take_ev (many := (p.length : Int)) hb (by omega)
  obtain ⟨u, b2, u0, u1, hb2, e2⟩ := take_ev (many := 3) hb1 (by decide)
  obtain ⟨n, rfl⟩ : ∃ n : Nat, v = n := ⟨v.toNat, by omega⟩
  have hn : n < p.length := by omega
  have hcut1 : cutD (p.map eLn) none (some (n : Int)) = (p.take n).map eLn := by
    rw [cut_to (by simp; omega), List.map_take]
  have hcut2 : cutD (p.map eLn) (some ((n : Int) + 1)) none = (p.drop (n + 1)).map eLn := by
    rw [show ((n : Int) + 1) = ((n + 1 : Nat) : Int) by omega, cut_from (by simp; omega), List.map_drop]
  have hmono : ∀ l ∈ p, c.line (m + 3) l := fun l h => line_mono (by omega) (hl l h)
  by_cases hu : u = 0
  · subst hu
    refine ⟨p.take n ++ p.drop (n + 1), b2, hb2, by simp; omega, fun l h => ?_, ?_⟩
    · rcases List.mem_append.mp h with h | h
      · exact hmono l (List.mem_of_mem_take h)
      · exact hmono l (List.mem_of_mem_drop h)
    · refine mk0_rt rfl (r := [some b2, some (.sh (ePlan p)), some (.sh (.int n)), some (.sh (.int 0))]) ?_ rfl
      simp [b__law_turned_plan, initE, e1, e2, hcut1, hcut2]
      rw [addD_tup (by simp; omega)]
      simp [ePlan]
  · by_cases hu1 : u = 1
    · subst hu1
      obtain ⟨w, b3, w0, w1, hb3, e3⟩ := take_ev (many := 3) hb2 (by decide)
      refine ⟨p.take n ++ [p[n].withT (p[n].t + 1 + w)] ++ p.drop (n + 1), b3, hb3, by simp; omega, fun l h => ?_, ?_⟩
      · rcases List.mem_append.mp h with h | h
        · rcases List.mem_append.mp h with h | h
          · exact hmono l (List.mem_of_mem_take h)
          · rw [List.mem_singleton.mp h]
            have hx := hl p[n] (List.getElem_mem hn)
            have := line_t hx
            exact line_with hx (by omega) (by omega)
        · exact hmono l (List.mem_of_mem_drop h)
      · refine mk0_rt rfl (r := [some b3, some (.sh (ePlan p)), some (.sh (.int n)), some (.sh (.int 1))]) ?_ rfl
        obtain ⟨xs, x1, x2⟩ := lnP_with (l := p[n])
        have hlen : xs.length ≤ 4 := by
          have := @lnP_len p[n]
          rw [x1, List.length_append] at this
          omega
        have hxl : eLn p[n] = .tup (xs ++ [.int p[n].t]) := by rw [← x1]; rfl
        simp [b__law_turned_plan, initE, e1, e2, hcut1, hcut2, plan_at hn, hxl, cut_last, atI_last, e3]
        rw [addD_tup (xs := xs) (by simp; omega)]
        simp
        rw [addD_tup (by simp; omega)]
        simp [hcut2]
        rw [addD_tup (by simp; omega)]
        simp [ePlan, eLn, x2]
    · obtain ⟨q, b3, hb3, hql, hqm, e3⟩ := mixed_ev hb2 hp
      refine ⟨q, b3, hb3, by omega, fun l h => hmono l (hqm l h), ?_⟩
      refine mk0_rt rfl (r := [some b3, some (.sh (ePlan p)), some (.sh (.int n)), some (.sh (.int u))]) ?_ rfl
      simp [b__law_turned_plan, initE, e1, e2, hu, hu1, e3]
      rfl
end
end Tk

set_option Elab.async false
set_option linter.all false
set_option maxRecDepth 100000
set_option maxHeartbeats 4000000
namespace Tk
open PySem PySem.Spec PyProof.Rows L2
section
variable {c : Cs}
theorem Cs.run_snoc {p : List Ln} {l : Ln} {q q' : PS'} (h : c.run p 0 z0 = .fin q) (hs : c.step q l = some q') : c.run (p ++ [l]) 0 z0 = .fin q' := by
  rw [c.run_append, h]
  simp only [Cs.run, hs]
def dpE (c : Cs) (b : O) (lines most : Int) (p : List Ln) (q : PS') (xs : List (Option O)) : Env :=
  some b :: some (.sh c.eRows) :: some (.sh c.ePurse) :: some (.sh c.eVis) :: some (.sh (.int lines)) :: some (.sh (.int most)) :: some (.lst ((p.map eLn).map O.sh)) :: some (.sh (.tup (vI c.S q.1))) :: some (.sh (.tup (vI c.C q.2))) :: xs
theorem drawn_step (ok : c.Ok) {b : O} {lines most : Int} {p : List Ln} {q : PS'} {x10 x11 x12 x13 : Option O} {i : Nat} (hb : IsBox b) (hm1 : 1 ≤ most) (hm2 : most ≤ M30) (hp : p.length < 1000) :
    ∃ (b' : O) (l : Ln) (q' : PS') (u10 u11 u12 u13 : Option O), IsBox b' ∧ c.line most l ∧ c.step q l = some q' ∧
      lb__law_drawn_plan_0 (dpE c b lines most p q [some (.sh (.int i)), x10, x11, x12, x13]) = .nx (dpE c b' lines most (p ++ [l]) q' [some (.sh (.int i)), u10, u11, u12, u13]) := by
  obtain ⟨s', b1, s0, s1, hb1, e1⟩ := take_ev (many := (c.S : Int)) hb (by have := ok.S0; omega)
  obtain ⟨k', b2, k0, k1, hb2, e2⟩ := take_ev (many := (c.K : Int)) hb1 (by have := ok.K0; omega)
  obtain ⟨v, b3, v0, v1, hb3, e3⟩ := take_ev (many := most) hb2 (by omega)
  obtain ⟨s, rfl⟩ : ∃ s : Nat, s' = s := ⟨s'.toNat, by omega⟩
  obtain ⟨k, rfl⟩ : ∃ k : Nat, k' = k := ⟨k'.toNat, by omega⟩
  have hs : s < c.S := by omega
  have hk : k < c.K := by omega
  have t1 : 1 ≤ 1 + v := by omega
  have t2 : 1 + v ≤ M30 := by omega
  have hmv := pool_move_ev ok (p := q) hs hk t1 t2
  have hmv1 := pool_move_ev ok (p := q) (t := 1) hs hk (by omega) (by unfold M30; omega)
  have hco := pool_come_ev ok (p := q) t1 t2
  have hz : p.length < sizeLine := Nat.lt_of_lt_of_le hp (by decide)
  have come : ∃ (l : Ln) (q' : PS'), c.line most l ∧ c.step q l = some q' ∧ l = .come (1 + v) ∧ q' = c.comes q (1 + v) := ⟨.come (1 + v), _, ⟨t1, by omega⟩, rfl, rfl, rfl⟩
  by_cases hi : i = 0
  · subst hi
    refine ⟨b3, .come (1 + v), c.comes q (1 + v), some (.sh (.int s)), some (.sh (.int k)), some (.sh (.int (1 + v))), some (.sh .non), hb3, ⟨t1, by omega⟩, rfl, ?_⟩
    simp [lb__law_drawn_plan_0, dpE, e1, e2, e3, hz, hco]
    simp [eSt, eLn, lnP]
  · have hip : 0 < i := by omega
    cases e : c.move q s k (1 + v) with
    | some q' =>
      rw [e] at hmv
      have hcan : c.can q s k (1 + v) := by
        unfold Cs.move at e
        split at e
        · assumption
        · cases e
      refine ⟨b3, .visit s k (1 + v), q', some (.sh (.int s)), some (.sh (.int k)), some (.sh (.int (1 + v))), some (.sh (.tup (eSt c q'))), hb3, ⟨hs, hk, hcan.1, t1, by omega⟩, e, ?_⟩
      simp [lb__law_drawn_plan_0, dpE, e1, e2, e3, hz, hip, hmv]
      simp [eSt, eLn, lnP]
    | none =>
      rw [e] at hmv
      by_cases hcr : 0 < q.1 s
      · cases e' : c.move q s k 1 with
        | some q' =>
          rw [e'] at hmv1
          have hcan : c.can q s k 1 := by
            unfold Cs.move at e'
            split at e'
            · assumption
            · cases e'
          refine ⟨b3, .visit s k 1, q', some (.sh (.int s)), some (.sh (.int k)), some (.sh (.int 1)), some (.sh (.tup (eSt c q'))), hb3, ⟨hs, hk, hcan.1, by omega, hm1⟩, e', ?_⟩
          simp [lb__law_drawn_plan_0, dpE, e1, e2, e3, hz, hip, hmv, atI_vI hs, hcr, hmv1]
          simp [eSt, eLn, lnP]
        | none =>
          rw [e'] at hmv1
          refine ⟨b3, .come (1 + v), c.comes q (1 + v), some (.sh (.int s)), some (.sh (.int k)), some (.sh (.int (1 + v))), some (.sh .non), hb3, ⟨t1, by omega⟩, rfl, ?_⟩
          simp [lb__law_drawn_plan_0, dpE, e1, e2, e3, hz, hip, hmv, atI_vI hs, hcr, hmv1, hco]
          simp [eSt, eLn, lnP]
      · refine ⟨b3, .come (1 + v), c.comes q (1 + v), some (.sh (.int s)), some (.sh (.int k)), some (.sh (.int (1 + v))), some (.sh .non), hb3, ⟨t1, by omega⟩, rfl, ?_⟩
        simp [lb__law_drawn_plan_0, dpE, e1, e2, e3, hz, hip, hmv, atI_vI hs, hcr, hco]
        simp [eSt, eLn, lnP]
theorem drawn_ev (ok : c.Ok) {b : O} {n : Nat} {most : Int} (hb : IsBox b) (hm1 : 1 ≤ most) (hm2 : most ≤ M30) (hn : n ≤ 1000) :
    ∃ (p : List Ln) (q : PS') (b' : O), IsBox b' ∧ p.length = n ∧ (∀ l ∈ p, c.line most l) ∧ c.run p 0 z0 = .fin q ∧
      Φ__law_drawn_plan [b, .sh c.eRows, .sh c.ePurse, .sh c.eVis, .sh (.int n), .sh (.int most)] = .ok (.sh (ePlan p)) [b', .sh c.eRows, .sh c.ePurse, .sh c.eVis, .sh (.int n), .sh (.int most)] := by
  have H := forL_inv (b := gN 9) (body := lb__law_drawn_plan_0) (fun i ρ => ∃ (b : O) (p : List Ln) (q : PS') (x9 x10 x11 x12 x13 : Option O), IsBox b ∧ ρ = dpE c b n most p q [x9, x10, x11, x12, x13] ∧ p.length = i ∧ (∀ l ∈ p, c.line most l) ∧ c.run p 0 z0 = .fin q) (mI n fun i => .int i) 0
    (ρ := dpE c b n most [] z0 [none, none, none, none, none]) ⟨b, [], z0, none, none, none, none, none, hb, rfl, rfl, (fun _ h => nomatch h), rfl⟩ (by
      rintro i d ρ hd ⟨b, p, q, x9, x10, x11, x12, x13, hb, rfl, hl, hm, hr⟩
      obtain ⟨hi, rfl⟩ : i < n ∧ d = .int (i : Int) := by
        by_cases hi : i < n
        · rw [mI_get hi] at hd
          exact ⟨hi, (Option.some.inj hd).symm⟩
        · rw [List.getElem?_eq_none (by simp; omega)] at hd
          cases hd
      obtain ⟨b', l, q', u10, u11, u12, u13, hb', hll, hst, e⟩ := drawn_step (x10 := x10) (x11 := x11) (x12 := x12) (x13 := x13) (lines := n) (i := i) (q := q) (p := p) ok hb hm1 hm2 (by omega)
      refine ⟨_, _, rfl, .inl e, b', p ++ [l], q', _, _, _, _, _, hb', rfl, by rw [List.length_append, hl]; rfl, fun x hx => ?_, Cs.run_snoc hr hst⟩
      rcases List.mem_append.mp hx with h | h
      · exact hm x h
      · rw [List.mem_singleton.mp h]; exact hll)
  obtain ⟨r, e, b', p, q, x9, x10, x11, x12, x13, hb', rfl, hl, hm, hr⟩ := H
  refine ⟨p, q, b', hb', by simpa using hl, hm, hr, ?_⟩
  refine mk0_rt rfl (r := [some b', some (.sh c.eRows), some (.sh c.ePurse), some (.sh c.eVis), some (.sh (.int n)), some (.sh (.int most)), some (.sh (.lst (p.map eLn))), some (.sh (.tup (vI c.S q.1))), some (.sh (.tup (vI c.C q.2))), x9, x10, x11, x12, x13]) ?_ rfl
  unfold dpE z0 at e
  simp at e
  simp [b__law_drawn_plan, initE, zmul_tupS ok, zmul_tup ok, rng1_ok' (show n ≤ 16777216 by omega), e]
  rfl
end
end Tk

set_option Elab.async false
set_option linter.all false
set_option maxRecDepth 100000
set_option maxHeartbeats 4000000
namespace Tk
open PySem PySem.Spec PyProof.Rows L2
/-! ## a case of lists -/
def csOf (rs : List (List (Option Nat))) (K : Nat) (pu : List Int) (vs : List (List Int × List Int)) : Cs :=
  { S := rs.length, K := K, C := pu.length, cell := fun s k => (rs.getD s []).getD k none, purse := fun i => pu.getD i 0, fee := fun k i => (vs.getD k ([], [])).1.getD i 0, gain := fun k i => (vs.getD k ([], [])).2.getD i 0 }
theorem mI_map {α : Type} (xs : List α) (d0 : α) (e : α → D) : xs.map e = mI xs.length fun i => e (xs.getD i d0) := by
  apply List.ext_getElem?
  intro j
  by_cases hj : j < xs.length
  · rw [mI_get hj, List.getD_eq_getElem?_getD, List.getElem?_map, List.getElem?_eq_getElem hj]
    rfl
  · rw [List.getElem?_eq_none (by simp; omega), List.getElem?_eq_none (by simp; omega)]
theorem getD_mem {α : Type} {xs : List α} {i : Nat} {d0 : α} (h : i < xs.length) : xs.getD i d0 ∈ xs := by
  rw [List.getD_eq_getElem?_getD, List.getElem?_eq_getElem h]
  exact List.getElem_mem h
theorem getD_out {α : Type} {xs : List α} {i : Nat} {d0 : α} (h : xs.length ≤ i) : xs.getD i d0 = d0 := by
  rw [List.getD_eq_getElem?_getD, List.getElem?_eq_none h]
  rfl
section
variable {rs : List (List (Option Nat))} {K : Nat} {pu : List Int} {vs : List (List Int × List Int)}
theorem eRows_cs (h : ∀ r ∈ rs, r.length = K) : eRows rs = (csOf rs K pu vs).eRows := by
  unfold eRows Cs.eRows
  rw [mI_map rs [] eRow]
  congr 1
  refine mI_congr fun s hs => ?_
  unfold eRow
  rw [mI_map _ none eOp, h _ (getD_mem hs)]
  rfl
theorem ePurse_cs : eIs pu = (csOf rs K pu vs).ePurse := by
  unfold eIs Cs.ePurse
  rw [vI_of]
  rfl
theorem eVis_cs (hl : vs.length = K) (h : ∀ v ∈ vs, v.1.length = pu.length ∧ v.2.length = pu.length) : eVis vs = (csOf rs K pu vs).eVis := by
  unfold eVis Cs.eVis
  rw [mI_map vs ([], []) eVi, hl]
  congr 1
  refine mI_congr fun k hk => ?_
  have hm := h _ (getD_mem (d0 := ([], [])) (show k < vs.length by omega))
  unfold eVi Cs.eVi eIs
  rw [vI_of, vI_of, hm.1, hm.2]
  rfl
theorem cs_ok (h0 : 0 < rs.length) (h1 : rs.length ≤ 40) (k0 : 0 < K) (k1 : K ≤ 6) (c1 : pu.length ≤ 60) (hr : ∀ r ∈ rs, RowOk rs.length K r) (hp : ∀ x ∈ pu, 0 ≤ x ∧ x ≤ M18)
    (hv : ∀ v ∈ vs, (∀ x ∈ v.1, 0 ≤ x ∧ x ≤ M18) ∧ ∀ x ∈ v.2, 0 ≤ x ∧ x ≤ M18) : (csOf rs K pu vs).Ok := by
  have z0 : (0 : Int) ≤ 0 ∧ (0 : Int) ≤ M18 := ⟨by omega, by unfold M18; omega⟩
  have gb : ∀ (l : List Int) (i : Nat), (∀ x ∈ l, 0 ≤ x ∧ x ≤ M18) → 0 ≤ l.getD i 0 ∧ l.getD i 0 ≤ M18 := fun l i h => by
    by_cases hi : i < l.length
    · exact h _ (getD_mem hi)
    · rw [getD_out (by omega)]; exact z0
  refine ⟨h0, h1, k0, k1, c1, fun s k n e => ?_, fun i => gb _ _ hp, fun k i => ?_, fun k i => ?_⟩
  · simp only [csOf] at e ⊢
    by_cases hs : s < rs.length
    · have hm := hr _ (getD_mem (d0 := []) hs)
      by_cases hk : k < (rs.getD s []).length
      · refine hm.2 n ?_
        rw [← e]
        exact getD_mem hk
      · rw [getD_out (by omega)] at e
        cases e
    · rw [getD_out (xs := rs) (by omega)] at e
      simp at e
  · by_cases hk : k < vs.length
    · exact gb _ _ (hv _ (getD_mem hk)).1
    · simp only [csOf]
      rw [getD_out (xs := vs) (by omega)]
      exact gb [] i fun x h => nomatch h
  · by_cases hk : k < vs.length
    · exact gb _ _ (hv _ (getD_mem hk)).2
    · simp only [csOf]
      rw [getD_out (xs := vs) (by omega)]
      exact gb [] i fun x h => nomatch h
end
def eCase (c : Cs) : D := .tup [c.eRows, c.ePurse, c.eVis]
theorem set_cut {α : Type} : ∀ {xs : List α} {n : Nat} {x : α}, n < xs.length → xs.take n ++ [x] ++ xs.drop (n + 1) = xs.set n x
  | [], n, x, h => by simp at h
  | y :: xs, 0, x, h => by simp
  | y :: xs, n + 1, x, h => by
    have ih := set_cut (xs := xs) (n := n) (x := x) (by simpa using h)
    simp at ih ⊢
    exact ih
theorem cut_to1 {α : Type} {xs : List α} {k : Nat} (h : k < xs.length) : cutD xs (some ((k : Int) + 1)) none = xs.drop (k + 1) := by
  rw [show ((k : Int) + 1) = ((k + 1 : Nat) : Int) by omega]
  exact cut_from h
theorem csOf_done {rs : List (List (Option Nat))} {K : Nat} {pu : List Int} {vs : List (List Int × List Int)} {M : Int} (hM : M ≤ M18) (h0 : 0 < rs.length) (h1 : rs.length ≤ 40) (k0 : 0 < K) (k1 : K ≤ 6) (c1 : pu.length ≤ 60) (hr : ∀ r ∈ rs, RowOk rs.length K r) (hp : ∀ x ∈ pu, 0 ≤ x ∧ x ≤ M)
    (hl : vs.length = K) (hv : ∀ v ∈ vs, ViOk pu.length M v) : ∃ c : Cs, c.Ok ∧ D.tup [eRows rs, eIs pu, eVis vs] = eCase c := by
  refine ⟨csOf rs K pu vs, cs_ok h0 h1 k0 k1 c1 hr (fun x h => ⟨(hp x h).1, Int.le_trans (hp x h).2 hM⟩) (fun v h => ⟨fun x hx => ⟨((hv v h).1.2 x hx).1, Int.le_trans ((hv v h).1.2 x hx).2 hM⟩, fun x hx => ⟨((hv v h).2.2 x hx).1, Int.le_trans ((hv v h).2.2 x hx).2 hM⟩⟩), ?_⟩
  unfold eCase
  rw [← eRows_cs fun r h => (hr r h).1, ← ePurse_cs, ← eVis_cs hl fun v h => ⟨(hv v h).1.1, (hv v h).2.1⟩]
theorem hall_vis_ok {M : Int} (h : 1 ≤ M) : ∀ v ∈ hallVis, ViOk 2 M v := by
  intro v hv
  simp [hallVis] at hv
  rcases hv with rfl | rfl <;> refine ⟨⟨rfl, fun x hx => ?_⟩, ⟨rfl, fun x hx => ?_⟩⟩ <;> simp at hx <;> rcases hx with rfl | rfl <;> omega
theorem hall_rows_ok {n : Nat} : (hallRows n).length = n + 1 ∧ ∀ r ∈ hallRows n, RowOk (n + 1) 2 r := by
  refine ⟨by simp [hallRows], fun r hr => ?_⟩
  obtain ⟨i, hi, rfl⟩ := List.mem_map.mp hr
  have hi := List.mem_range.mp hi
  refine ⟨rfl, fun m hm => ?_⟩
  unfold hallRow at hm
  by_cases h1 : i < n <;> by_cases h2 : 0 < i <;> simp [h1, h2] at hm <;> omega
theorem rows_at {rs : List (List (Option Nat))} {n : Nat} (h : n < rs.length) : ixD (eRows rs) (.int n) = some (.sh (eRow rs[n])) := by
  unfold eRows
  rw [ixD_tup, atI_map, atI_nat' h]
  rfl
@[simp] theorem sl_rows {rs : List (List (Option Nat))} {l h : Option Int} : slD (eRows rs) l h = some (.sh (.tup (cutD (rs.map eRow) l h))) := rfl
@[simp] theorem sl_row {r : List (Option Nat)} {l h : Option Int} : slD (eRow r) l h = some (.sh (.tup (cutD (r.map eOp) l h))) := rfl
theorem box_comp {el : Env → Res O} {w n : Nat} {h : Nat → D} {xs : List (Option O)} {b : O} (P : Int → Prop) (hb : IsBox b) (hs : okSlot (slot xs w) = true)
    (hel : ∀ (b : O) (d : D), IsBox b → ∃ x b', IsBox b' ∧ P x ∧ el (some b :: xs.set w (some (.sh d))) = .ok (.sh (.int x)) (some b' :: xs.set w (some (.sh d)))) :
    ∃ (l : List Int) (b' : O), IsBox b' ∧ l.length = n ∧ (∀ x ∈ l, P x) ∧ compE (gN (w + 1)) tTrue el [w + 1] (mI n h) (some b :: xs) = .ok (.lst ((l.map D.int).map O.sh)) (some b' :: xs) := by
  obtain ⟨os, r, e, ⟨b1, hb1, rfl⟩, f⟩ := comp_rel (b := gN (w + 1)) (el := el) (v := w + 1) (ρ := some b :: xs)
    (fun r => ∃ b', IsBox b' ∧ r = some b' :: xs.set w none) (fun _ o => ∃ x, o = O.sh (D.int x) ∧ P x) (ds := mI n h) (by exact hs) ⟨b, hb, rfl⟩ (by
      rintro d hd ρ ⟨b', hb', rfl⟩
      obtain ⟨x, b2, hb2, hx, e⟩ := hel b' d hb'
      exact ⟨_, .sh (.int x), some b2 :: xs.set w (some (.sh d)), rfl, by simpa using e, ⟨b2, hb2, by simp⟩, x, rfl, hx⟩)
  obtain ⟨l, rfl, hl, hx⟩ := Fa2.enc f
  rw [mI_len] at hl
  refine ⟨l, b1, hb1, hl, hx, ?_⟩
  rw [e]
  have : (some b1 :: xs.set w none).set (w + 1) (slot (some b :: xs) (w + 1)) = some b1 :: xs := by
    show some b1 :: (xs.set w none).set w (slot xs w) = _
    rw [List.set_set, set_self_slot]
  rw [this]
theorem case_ev {b : O} (hb : IsBox b) : ∃ (c : Cs) (b' : O), IsBox b' ∧ c.Ok ∧ Φ__law_case [b] = .ok (.sh (eCase c)) [b'] := by
  obtain ⟨sort, b1, s0, s1, hb1, e1⟩ := take_ev (many := 5) hb (by decide)
  by_cases hs : sort < 3
  · obtain ⟨z, b2, z0, z1, hb2, e2⟩ := take_ev (many := 4) hb1 (by decide)
    obtain ⟨n, hn⟩ : ∃ n : Nat, 1 + z = n := ⟨(1 + z).toNat, by omega⟩
    have hn1 : n ≤ 4 := by omega
    have hh := hall_ev (n := n) (by omega)
    have hln := (hall_rows_ok (n := n)).1
    by_cases h0 : sort = 0
    · subst h0
      obtain ⟨c, ok, e⟩ := csOf_done (rs := hallRows n) (K := 2) (pu := [0, (n : Int)]) (vs := hallVis) (M := 4) (by unfold M18; omega) (by omega) (by omega) (by decide) (by decide) (by simp)
        (by rw [hln]; exact hall_rows_ok.2) (fun x hx => by simp at hx; rcases hx with rfl | rfl <;> omega) rfl (hall_vis_ok (by decide))
      refine ⟨c, b2, hb2, ok, ?_⟩
      rw [← e]
      refine mk0_rt rfl (r := [some b2, some (.sh (.int 0)), some (.sh (.int n)), some (.sh (eRows (hallRows n))), some (.sh (eIs [0, (n : Int)])), some (.sh (eVis hallVis)), none, none, none, none, none, none, none]) ?_ rfl
      simp [b__law_case, initE, e1, e2, hn, hh]
    · have hsp : 0 < sort := by omega
      obtain ⟨st', b3, st0, st1, hb3, e3⟩ := take_ev (many := (n : Int) + 1) hb2 (by omega)
      obtain ⟨kd', b4, kd0, kd1, hb4, e4⟩ := take_ev (many := 2) hb3 (by decide)
      obtain ⟨st, rfl⟩ : ∃ s : Nat, st' = s := ⟨st'.toNat, by omega⟩
      obtain ⟨kd, rfl⟩ : ∃ s : Nat, kd' = s := ⟨kd'.toNat, by omega⟩
      obtain ⟨x, b5, hx, hb5, e5⟩ := pick_ev (xs := [.non, .int st, .int 0]) hb4 (List.cons_ne_nil _ _)
      obtain ⟨y, rfl, hy⟩ : ∃ y : Option Nat, x = eOp y ∧ ∀ m, y = some m → m < n + 1 := by
        simp at hx
        rcases hx with rfl | rfl | rfl
        · exact ⟨none, rfl, fun m h => nomatch h⟩
        · exact ⟨some st, rfl, fun m h => by cases h; omega⟩
        · exact ⟨some 0, rfl, fun m h => by cases h; omega⟩
      have hst : st < (hallRows n).length := by omega
      have hrow := hall_rows_ok.2 _ (List.getElem_mem hst)
      have hkd : kd < (hallRows n)[st].length := by rw [hrow.1]; omega
      let rs2 := (hallRows n).set st ((hallRows n)[st].set kd y)
      have hl2 : rs2.length = n + 1 := by rw [← hln]; exact List.length_set ..
      have hr2 : ∀ r ∈ rs2, RowOk rs2.length 2 r := by
        intro r hr
        rw [hl2]
        rcases List.mem_or_eq_of_mem_set hr with h | rfl
        · exact hall_rows_ok.2 r h
        · refine ⟨by rw [List.length_set]; exact hrow.1, fun m hm => ?_⟩
          rcases List.mem_or_eq_of_mem_set hm with h | h
          · exact hrow.2 m h
          · exact hy m h.symm
      have hc1 : addD (.tup (cutD ((hallRows n)[st].map eOp) none (some (kd : Int)))) (.tup [eOp y]) = some (.sh (.tup (((hallRows n)[st].map eOp).take kd ++ [eOp y]))) := by
        rw [cut_to (by simp; omega), addD_tup (by have := hrow.1; simp; omega)]
      have hc2 : addD (.tup (((hallRows n)[st].map eOp).take kd ++ [eOp y])) (.tup (cutD ((hallRows n)[st].map eOp) (some ((kd : Int) + 1)) none)) = some (.sh (eRow ((hallRows n)[st].set kd y))) := by
        rw [cut_to1 (by simpa using hkd), addD_tup (by have := hrow.1; simp; omega), set_cut (by simpa using hkd)]
        simp [eRow, List.map_set]
      have hc3 : ∀ d : D, addD (.tup (cutD ((hallRows n).map eRow) none (some (st : Int)))) (.tup [d]) = some (.sh (.tup (((hallRows n).map eRow).take st ++ [d]))) := fun d => by
        rw [cut_to (by simp; omega), addD_tup (by simp; omega)]
      have hc4 : addD (.tup (((hallRows n).map eRow).take st ++ [eRow ((hallRows n)[st].set kd y)])) (.tup (cutD ((hallRows n).map eRow) (some ((st : Int) + 1)) none)) = some (.sh (eRows rs2)) := by
        rw [cut_to1 (by simpa using hst), addD_tup (by simp; omega), set_cut (by simpa using hst)]
        simp [eRows, rs2, List.map_set]
      by_cases h1 : sort = 1
      · subst h1
        obtain ⟨c, ok, e⟩ := csOf_done (rs := rs2) (K := 2) (pu := [0, (n : Int)]) (vs := hallVis) (M := 4) (by unfold M18; omega) (by omega) (by omega) (by decide) (by decide) (by simp)
          hr2 (fun x hx => by simp at hx; rcases hx with rfl | rfl <;> omega) rfl (hall_vis_ok (by decide))
        refine ⟨c, b5, hb5, ok, ?_⟩
        rw [← e]
        refine mk0_rt rfl (r := [some b5, some (.sh (.int 1)), some (.sh (.int n)), some (.sh (eRows rs2)), some (.sh (eIs [0, (n : Int)])), some (.sh (eVis hallVis)), some (.sh (.int st)), some (.sh (.int kd)), some (.sh (eOp y)), none, none, none, none]) ?_ rfl
        simp [b__law_case, initE, e1, e2, hn, hh, e3, e4, e5, rows_at hst, hc1, hc2, hc3, hc4]
      · have h2 : sort = 2 := by omega
        subst h2
        obtain ⟨u, b6, u0, u1, hb6, e6⟩ := take_ev (many := 2) hb5 (by decide)
        obtain ⟨w, b7, w0, w1, hb7, e7⟩ := take_ev (many := 3) hb6 (by decide)
        have hmx : maxD [.lst [.int 0, .int ((n : Int) - 1 + w)]] = some (.sh (.int ((n : Int) - 1 + w))) := by
          show some (O.sh (.int (topI 0 [(n : Int) - 1 + w]))) = _
          unfold topI topI
          simp only [Option.some.injEq, O.sh.injEq, D.int.injEq]
          split <;> omega
        obtain ⟨c, ok, e⟩ := csOf_done (rs := rs2) (K := 2) (pu := [0 + u, (n : Int) - 1 + w]) (vs := hallVis) (M := 40) (by unfold M18; omega) (by omega) (by omega) (by decide) (by decide) (by simp)
          hr2 (fun x hx => by simp at hx; rcases hx with rfl | rfl <;> omega) rfl (hall_vis_ok (by decide))
        refine ⟨c, b7, hb7, ok, ?_⟩
        rw [← e]
        refine mk0_rt rfl (r := [some b7, some (.sh (.int 2)), some (.sh (.int n)), some (.sh (eRows rs2)), some (.sh (eIs [0 + u, (n : Int) - 1 + w])), some (.sh (eVis hallVis)), some (.sh (.int st)), some (.sh (.int kd)), some (.sh (eOp y)), none, none, none, none]) ?_ rfl
        have i0 : ixD (eIs [0, (n : Int)]) (.int 0) = some (.sh (.int 0)) := rfl
        have i1 : ixD (eIs [0, (n : Int)]) (.int 1) = some (.sh (.int n)) := rfl
        simp [b__law_case, initE, e1, e2, hn, hh, e3, e4, e5, e6, e7, rows_at hst, hc1, hc2, hc3, hc4, i0, i1, hmx]
        simp [eIs]
  · obtain ⟨z1, b2, z10, z11, hb2, e2⟩ := take_ev (many := 3) hb1 (by decide)
    obtain ⟨z2, b3, z20, z21, hb3, e3⟩ := take_ev (many := 3) hb2 (by decide)
    obtain ⟨z3, b4, z30, z31, hb4, e4⟩ := take_ev (many := 3) hb3 (by decide)
    obtain ⟨K, hK⟩ : ∃ n : Nat, 1 + z1 = n := ⟨(1 + z1).toNat, by omega⟩
    obtain ⟨S, hS⟩ : ∃ n : Nat, 1 + z2 = n := ⟨(1 + z2).toNat, by omega⟩
    obtain ⟨C, hC⟩ : ∃ n : Nat, z3 = n := ⟨z3.toNat, by omega⟩
    obtain ⟨rs, b5, hb5, hl, hr, e5⟩ := rows_ev (S := S) (K := K) hb4 (by omega) (by omega) (by omega)
    obtain ⟨vs, b6, hb6, hvl, hv, e6⟩ := visits_ev (K := K) (C := C) (most := 3) hb5 (by decide) (by omega) (by omega)
    obtain ⟨pu, b7, hb7, hpl, hp, e7⟩ := box_comp (el := ce__law_case_0) (w := 11) (n := C) (h := fun i => .int i) (xs := [some (.sh (.int sort)), none, some (.sh (eRows rs)), none, some (.sh (eVis vs)), none, none, none, some (.sh (.int K)), some (.sh (.int S)), some (.sh (.int C)), none])
      (fun x => 0 ≤ x ∧ x ≤ 4) hb6 rfl (fun b d hb => by
        obtain ⟨v, b2, h0, h1, hb2, e⟩ := number_ev (most := 3) hb (by decide)
        exact ⟨v, b2, hb2, ⟨h0, by omega⟩, by simp [ce__law_case_0, e]⟩)
    obtain ⟨c, ok, e⟩ := csOf_done (rs := rs) (K := K) (pu := pu) (vs := vs) (M := 4) (by unfold M18; omega) (by omega) (by omega) (by omega) (by omega) (by omega)
      (by rw [hl]; exact hr) hp hvl (by rw [hpl]; exact hv)
    refine ⟨c, b7, hb7, ok, ?_⟩
    rw [← e]
    refine mk0_rt rfl (r := [some b7, some (.sh (.int sort)), none, some (.sh (eRows rs)), none, some (.sh (eVis vs)), none, none, none, some (.sh (.int K)), some (.sh (.int S)), some (.sh (.int C)), none]) ?_ rfl
    simp at e7
    simp [b__law_case, initE, e1, hs, e2, e3, e4, hK, hS, hC, e5, e6, rng1_ok' (show C ≤ 16777216 by omega), e7]
    rfl
theorem vset {n : Nat} {f : Nat → Int} {s : Nat} {x : Int} : ((vI n f).map O.sh).set s (.sh (.int x)) = (vI n fun i => if i = s then x else f i).map O.sh := by
  rw [← List.map_set]
  unfold vI
  rw [mI_set]
  congr 1
  exact mI_congr fun i _ => by
    show (if i = s then D.int x else D.int (f i)) = D.int (if i = s then x else f i)
    split <;> rfl
theorem vI_list {n : Nat} {f : Nat → Int} : vI n f = ((List.range n).map f).map D.int := by
  unfold vI mI
  rw [List.map_map]
  rfl
theorem crowd_case_ev {b : O} (hb : IsBox b) : ∃ (c : Cs) (b' : O), IsBox b' ∧ c.Ok ∧ Φ__law_crowd_case [b] = .ok (.sh (eCase c)) [b'] := by
  obtain ⟨sort, b1, s0, s1, hb1, e1⟩ := take_ev (many := 4) hb (by decide)
  by_cases hs : sort = 0
  · subst hs
    obtain ⟨c, b2, hb2, ok, e2⟩ := case_ev hb1
    refine ⟨c, b2, hb2, ok, ?_⟩
    refine mk0_rt rfl (r := [some b2, some (.sh (.int 0)), none, none, none, none, none, none, none, none, none]) ?_ rfl
    simp [b__law_crowd_case, initE, e1, e2]
  · obtain ⟨z1, b2, z10, z11, hb2, e2⟩ := take_ev (many := 3) hb1 (by decide)
    obtain ⟨z2, b3, z20, z21, hb3, e3⟩ := take_ev (many := 4) hb2 (by decide)
    obtain ⟨z3, b4, z30, z31, hb4, e4⟩ := take_ev (many := 3) hb3 (by decide)
    obtain ⟨K, hK⟩ : ∃ n : Nat, 1 + z1 = n := ⟨(1 + z1).toNat, by omega⟩
    obtain ⟨S, hS⟩ : ∃ n : Nat, 1 + z2 = n := ⟨(1 + z2).toNat, by omega⟩
    obtain ⟨C, hC⟩ : ∃ n : Nat, 1 + z3 = n := ⟨(1 + z3).toNat, by omega⟩
    obtain ⟨rs, b5, hb5, hl, hr, e5⟩ := rows_ev (S := S) (K := K) hb4 (by omega) (by omega) (by omega)
    have zl : mulD (.lst [.int 0]) (.int C) = some (.lst ((vI C fun _ => 0).map O.sh)) := mulD_lst (by omega)
    have H := forL_inv (b := gN 7) (body := lb__law_crowd_case_0) (fun i ρ => ∃ (b : O) (vs : List (List Int × List Int)) (x7 x8 x9 : Option O), IsBox b ∧
        ρ = [some b, some (.sh (.int sort)), some (.sh (.int K)), some (.sh (.int S)), some (.sh (.int C)), some (.sh (eRows rs)), some (.lst ((vs.map eVi).map O.sh)), x7, x8, x9, none] ∧ vs.length = i ∧ ∀ v ∈ vs, ViOk C 2 v) (mI K fun i => .int i) 0
      (ρ := [some b5, some (.sh (.int sort)), some (.sh (.int K)), some (.sh (.int S)), some (.sh (.int C)), some (.sh (eRows rs)), some (.lst []), none, none, none, none]) ⟨b5, [], none, none, none, hb5, rfl, rfl, (fun _ h => nomatch h)⟩ (by
        rintro i d ρ hd ⟨b, vs, x7, x8, x9, hb, rfl, hvl, hv⟩
        obtain ⟨hi, rfl⟩ : i < K ∧ d = .int (i : Int) := by
          by_cases hi : i < K
          · rw [mI_get hi] at hd
            exact ⟨hi, (Option.some.inj hd).symm⟩
          · rw [List.getElem?_eq_none (by simp; omega)] at hd
            cases hd
        obtain ⟨x, c1, x0, x1, hc1, f1⟩ := take_ev (many := 3) hb (by decide)
        obtain ⟨j', c2, j0, j1, hc2, f2⟩ := take_ev (many := (C : Int)) hc1 (by omega)
        obtain ⟨y, c3, y0, y1, hc3, f3⟩ := take_ev (many := 3) hc2 (by decide)
        obtain ⟨l', c4, l0, l1, hc4, f4⟩ := take_ev (many := (C : Int)) hc3 (by omega)
        obtain ⟨j, rfl⟩ : ∃ s : Nat, j' = s := ⟨j'.toNat, by omega⟩
        obtain ⟨l, rfl⟩ : ∃ s : Nat, l' = s := ⟨l'.toNat, by omega⟩
        have hz : vs.length < sizeLine := Nat.lt_of_lt_of_le (show vs.length < 1000 by omega) (by decide)
        let fe : List Int := (List.range C).map fun i => if i = j then x else 0
        let ga : List Int := (List.range C).map fun i => if i = l then y else 0
        have okN : ∀ (u : Int) (m : Nat), 0 ≤ u → u < 3 → NumsOk C 2 ((List.range C).map fun i => if i = m then u else 0) := fun u m h0 h1 => ⟨by simp, fun x hx => by
          obtain ⟨i, _, rfl⟩ := List.mem_map.mp hx
          split <;> omega⟩
        refine ⟨_, [some c4, some (.sh (.int sort)), some (.sh (.int K)), some (.sh (.int S)), some (.sh (.int C)), some (.sh (eRows rs)), some (.lst (((vs ++ [(fe, ga)]).map eVi).map O.sh)), some (.sh (.int i)), some (.sh (.lst (fe.map D.int))), some (.sh (.lst (ga.map D.int))), none], rfl, .inl ?_,
          c4, vs ++ [(fe, ga)], _, _, _, hc4, rfl, by simp; omega, fun v hv' => ?_⟩
        · simp [lb__law_crowd_case_0, zl, f1, f2, ixN_nat (show j < C by omega), f3, f4, ixN_nat (show l < C by omega), vset, hz]
          simp [eVi, eIs, fe, ga, vI_list]
        · rcases List.mem_append.mp hv' with h | h
          · exact hv v h
          · rw [List.mem_singleton.mp h]
            exact ⟨okN x j x0 x1, okN y l y0 y1⟩)
    obtain ⟨r, e6, b6, vs, x7, x8, x9, hb6, rfl, hvl, hv⟩ := H
    rw [mI_len, Nat.zero_add] at hvl
    obtain ⟨pu, b7, hb7, hpl, hp, e7⟩ := box_comp (el := ce__law_crowd_case_0) (w := 9) (n := C) (h := fun i => .int i) (xs := [some (.sh (.int sort)), some (.sh (.int K)), some (.sh (.int S)), some (.sh (.int C)), some (.sh (eRows rs)), some (.lst ((vs.map eVi).map O.sh)), x7, x8, x9, none])
      (fun x => 0 ≤ x ∧ x ≤ 2) hb6 rfl (fun b d hb => by
        obtain ⟨x, b2, hx, hb2, e⟩ := pick_ev (xs := [.int 0, .int 0, .int 1, .int 2]) hb (List.cons_ne_nil _ _)
        obtain ⟨v, rfl, hv⟩ : ∃ v : Int, x = .int v ∧ 0 ≤ v ∧ v ≤ 2 := by
          simp at hx
          rcases hx with rfl | rfl | rfl
          · exact ⟨0, rfl, by omega, by omega⟩
          · exact ⟨1, rfl, by omega, by omega⟩
          · exact ⟨2, rfl, by omega, by omega⟩
        exact ⟨v, b2, hb2, hv, by simp [ce__law_crowd_case_0, e]⟩)
    obtain ⟨c, ok, e⟩ := csOf_done (rs := rs) (K := K) (pu := pu) (vs := vs) (M := 2) (by unfold M18; omega) (by omega) (by omega) (by omega) (by omega) (by omega)
      (by rw [hl]; exact hr) hp hvl (by rw [hpl]; exact hv)
    refine ⟨c, b7, hb7, ok, ?_⟩
    rw [← e]
    refine mk0_rt rfl (r := [some b7, some (.sh (.int sort)), some (.sh (.int K)), some (.sh (.int S)), some (.sh (.int C)), some (.sh (eRows rs)), some (.sh (.lst (vs.map eVi))), x7, x8, x9, none]) ?_ rfl
    simp at e6 e7
    simp [b__law_crowd_case, initE, e1, hs, e2, e3, e4, hK, hS, hC, e5, e6, rng1_ok' (show C ≤ 16777216 by omega), rng1_ok' (show K ≤ 16777216 by omega), e7]
    exact ⟨rfl, rfl⟩
end Tk

set_option Elab.async false
set_option linter.all false
set_option maxRecDepth 100000
set_option maxHeartbeats 4000000
namespace Tk
open PySem PySem.Spec PyProof.Rows L2
/-! ## deeds -/
def eDd : Dd → D
  | .come => .tup [.str "come"]
  | .ask g k => .tup [.str "visit", .int g, .int k]
def eNat (n : Nat) : D := .int n
def eAns : Bool → D
  | true => .str "come"
  | false => .str "let"
def oL (xs : List D) : O := .lst (xs.map O.sh)
section
variable {c : Cs}
/-! ### written out -/
def wrE (c : Cs) (P : List Ln) (ds : List Dd) (st : List Nat) (x4 x5 x6 : Option O) : Env := [some (.sh c.eRows), some (.sh (ePlan P)), some (oL (ds.map eDd)), some (oL (st.map eNat)), x4, x5, x6]
theorem wr_inner (ok : c.Ok) {P : List Ln} {s k to : Nat} {t : Int} (hs : s < c.S) (hk : k < c.K) (hto : c.cell s k = some to) : ∀ (gs : List Nat) (ds : List Dd) (st : List Nat) (x5 x6 : Option O), (∀ g ∈ gs, g < st.length) → ds.length + gs.length ≤ 100000 →
    ∃ u6, (okSlot x6 = true → okSlot u6 = true) ∧ forL (gN 6) lb__law_written_0 (gs.map eNat) (wrE c P ds st (some (.sh (eLn (.visit s k t)))) x5 x6) = .nx (wrE c P (ds ++ gs.map fun g => .ask g k) (setAll st gs to) (some (.sh (eLn (.visit s k t)))) x5 u6)
  | [], ds, st, x5, x6, _, _ => ⟨x6, id, by simp [setAll]⟩
  | g :: gs, ds, st, x5, x6, h, hl => by
    obtain ⟨u6, hu, e⟩ := wr_inner ok (P := P) (t := t) hs hk hto gs (ds ++ [.ask g k]) (st.set g to) x5 (some (.sh (eNat g))) (fun y hy => by rw [List.length_set]; exact h y (List.mem_cons_of_mem _ hy)) (by simp at hl ⊢; omega)
    refine ⟨u6, fun _ => hu rfl, ?_⟩
    have hz : Sq (lnP (.visit s k t)) (eLn (.visit s k t)) := .inr rfl
    have hsz : ds.length < sizeLine := Nat.lt_of_lt_of_le (show ds.length < 100000 by simp at hl; omega) (by decide)
    have hg := h g List.mem_cons_self
    rw [List.map_cons, forL_nx (ρ1 := wrE c P ds st (some (.sh (eLn (.visit s k t)))) x5 (some (.sh (eNat g)))) (r := wrE c P (ds ++ [.ask g k]) (st.set g to) (some (.sh (eLn (.visit s k t)))) x5 (some (.sh (eNat g)))) rfl (by
      simp [lb__law_written_0, wrE, oL, eNat, ix_visit1 hz, ix_visit2 hz, ix_rows hs, ix_row hk, hto, hsz, ixN_nat hg]
      simp [eDd, List.map_set, eNat]), e]
    simp [setAll]
theorem there_D {st : List Nat} {s : Nat} {x6 : Option O} (h6 : okSlot x6 = true) {z : D} {l0 l1 l2 l5 : Option O} (hz : ixD z (.int 1) = some (.sh (.int s))) :
    compE (gN 6) (t2 eqD (eIxO 3 (eVar 6)) (eV (e2 ixD (eVar 4) (eC (.int 1))))) ce__law_written_0 [6] (mI st.length fun i => .int i) [l0, l1, l2, some (oL (st.map eNat)), some (.sh z), l5, x6] =
      .ok (.lst ((((List.range st.length).filter fun g => st[g]? == some s).map eNat).map O.sh)) [l0, l1, l2, some (oL (st.map eNat)), some (.sh z), l5, x6] := by
  refine (comp_mIt (fun g => st[g]? == some s) (fun g => .sh (eNat g)) (by exact h6) (fun i hi => ?_) (fun i hi _ => by simp [ce__law_written_0, eNat])).trans ?_
  · have : atI (st.map (O.sh ∘ eNat)) (i : Int) = some (.sh (.int (st[i] : Int))) := by
      rw [atI_map, atI_nat' hi]
      rfl
    simp [oL, this, hz, List.getElem?_eq_getElem hi]
    rw [Bool.eq_iff_iff]
    simp
    omega
  · simp
theorem wr_step (ok : c.Ok) {m : Int} {P : List Ln} {l : Ln} (hl : c.line m l) (hm : m ≤ 10) {ds : List Dd} {st : List Nat} {x4 x5 x6 : Option O} (h6 : okSlot x6 = true) (hd : ds.length ≤ 10000) (hst : st.length ≤ 10000) :
    ∃ u4 u5 u6, okSlot u6 = true ∧ lb__law_written_1 (wrE c P ds st (some (.sh (eLn l))) x5 x6) = .nx (wrE c P (ds ++ (c.wline st l).1) (c.wline st l).2 u4 u5 u6) := by
  cases l with
  | come t =>
    obtain ⟨h1, h2⟩ := hl
    have hz : Sq (lnP (.come t)) (eLn (.come t)) := .inr rfl
    obtain ⟨n, rfl⟩ : ∃ n : Nat, t = n := ⟨t.toNat, by omega⟩
    have m1 := mulD_lst (d := .tup [.str "come"]) (n := n) (by omega)
    have m2 := mulD_lst (d := .int 0) (n := n) (by omega)
    have a1 : addD (.lst (ds.map eDd)) (.lst (mI n fun _ => .tup [.str "come"])) = some (oL ((ds ++ List.replicate n Dd.come).map eDd)) := by
      rw [addD_lst (by simp; omega), mI_const]
      simp [oL, eDd]
    have a2 : addD (.lst (st.map eNat)) (.lst (mI n fun _ => .int 0)) = some (oL ((st ++ List.replicate n 0).map eNat)) := by
      rw [addD_lst (by simp; omega), mI_const]
      simp [oL, eNat]
    refine ⟨some (.sh (eLn (.come n))), x5, x6, h6, ?_⟩
    simp only [Cs.wline, Int.toNat_natCast]
    simp [lb__law_written_1, wrE, ix_come0 hz, ix_come1 hz, eq_cc, oL, m1, m2]
    simp [a1, oL, ix_come1 hz, m2, a2]
  | visit s k t =>
    obtain ⟨hs, hk, hc, h1, h2⟩ := hl
    obtain ⟨to, hto⟩ := Option.ne_none_iff_exists'.mp hc
    have hz : Sq (lnP (.visit s k t)) (eLn (.visit s k t)) := .inr rfl
    obtain ⟨n, rfl⟩ : ∃ n : Nat, t = n := ⟨t.toNat, by omega⟩
    have hlen : (there st s n).length ≤ 10 := by
      unfold there
      rw [List.length_take]
      omega
    have hcut : cutD (((List.range st.length).filter fun g => st[g]? == some s).map eNat) none (some (n : Int)) = (there st s n).map eNat := by
      unfold there cutD
      rw [HT.sIx_nat, HT.sIx_none, List.drop_zero, Nat.sub_zero, ← List.map_take]
      congr 1
      rw [List.length_map, List.take_eq_take_iff]
      omega
    obtain ⟨v6, hv6, e⟩ := wr_inner ok (P := P) (t := (n : Int)) hs hk hto (there st s n) ds st (some (.sh (.lst ((there st s n).map eNat)))) x6 (fun g hg => (List.getElem?_eq_some_iff.mp (there_mem hg)).1) (by omega)
    refine ⟨some (.sh (eLn (.visit s k n))), some (.sh (.lst ((there st s n).map eNat))), v6, hv6 h6, ?_⟩
    simp only [Cs.wline, Int.toNat_natCast, hto, Option.getD_some]
    have hth := there_D (st := st) (s := s) (x6 := x6) h6 (ix_visit1 hz) (l0 := some (.sh c.eRows)) (l1 := some (.sh (ePlan P))) (l2 := some (oL (ds.map eDd))) (l5 := x5)
    unfold wrE oL at e
    unfold oL at hth
    simp at e hth
    simp [lb__law_written_1, wrE, oL, ix_visit0 hz, eq_vc, eView, scal', rng1_ok' (show st.length ≤ 16777216 by omega), hth, ix_visit3 hz, hcut, e]
theorem wline_len {m : Int} {l : Ln} (hl : c.line m l) {st : List Nat} : (c.wline st l).1.length ≤ m.toNat ∧ (c.wline st l).2.length ≤ st.length + m.toNat := by
  cases l with
  | come t =>
    obtain ⟨h1, h2⟩ := hl
    simp [Cs.wline]
    omega
  | visit s k t =>
    obtain ⟨_, _, _, h1, h2⟩ := hl
    simp only [Cs.wline, List.length_map, setAll_len]
    unfold there
    rw [List.length_take]
    omega
theorem wr_loop (ok : c.Ok) {m : Int} {P : List Ln} (hm : m ≤ 10) : ∀ (ls : List Ln) (ds : List Dd) (st : List Nat) (x4 x5 x6 : Option O), (∀ l ∈ ls, c.line m l) → okSlot x6 = true → ds.length + 10 * ls.length ≤ 10000 → st.length + 10 * ls.length ≤ 10000 →
    ∃ u4 u5 u6, forL (gN 4) lb__law_written_1 (ls.map eLn) (wrE c P ds st x4 x5 x6) = .nx (wrE c P (ds ++ (c.wr ls st).1) (c.wr ls st).2 u4 u5 u6)
  | [], ds, st, x4, x5, x6, _, _, _, _ => ⟨x4, x5, x6, by simp [Cs.wr]⟩
  | l :: ls, ds, st, x4, x5, x6, hl, h6, hd, hst => by
    have hll := hl l List.mem_cons_self
    obtain ⟨w1, w2⟩ := wline_len (st := st) hll
    rw [List.length_cons] at hd hst
    obtain ⟨u4, u5, u6, hu6, e⟩ := wr_step ok (P := P) (ds := ds) (st := st) (x4 := x4) (x5 := x5) (x6 := x6) hll hm h6 (by omega) (by omega)
    obtain ⟨v4, v5, v6, e2⟩ := wr_loop ok (P := P) hm ls (ds ++ (c.wline st l).1) (c.wline st l).2 u4 u5 u6 (fun x hx => hl x (List.mem_cons_of_mem _ hx)) hu6 (by rw [List.length_append]; omega) (by omega)
    refine ⟨v4, v5, v6, ?_⟩
    rw [List.map_cons, forL_nx rfl e, e2]
    simp [Cs.wr]
theorem written_ev (ok : c.Ok) {m : Int} {P : List Ln} {q : PS'} (hm : m ≤ 10) (hl : ∀ l ∈ P, c.line m l) (hr : c.run P 0 z0 = .fin q) (hP : P.length ≤ 500) : Φ__law_written [.sh c.eRows, .sh (ePlan P)] = .ok (.sh (.lst ((c.wr P []).1.map eDd))) [.sh c.eRows, .sh (ePlan P)] := by
  cases P with
  | nil =>
    refine mk0_rt rfl (r := [some (.sh c.eRows), some (.sh (ePlan [])), some (.sh (.lst [])), some (.sh (.lst [])), none, none, none]) ?_ rfl
    have : seq? (ePlan []) = some [] := rfl
    simp [b__law_written, initE, this, Cs.wr]
  | cons l ls =>
    cases l with
    | visit s k t =>
      exfalso
      simp only [Cs.run, Cs.step, Cs.move] at hr
      rw [if_neg fun z => ?_] at hr
      · cases hr
      · have h1 := (hl _ List.mem_cons_self).2.2.2.1
        have : t ≤ 0 := z.2.1
        omega
    | come t =>
      have hll := hl _ List.mem_cons_self
      obtain ⟨h1, h2⟩ := hll
      obtain ⟨n, rfl⟩ : ∃ n : Nat, t = n := ⟨t.toNat, by omega⟩
      have hz : Sq (lnP (.come n)) (eLn (.come n)) := .inr rfl
      have m1 := mulD_lst (d := .tup [.str "come"]) (n := n) (by omega)
      have m2 := mulD_lst (d := .int 0) (n := n) (by omega)
      have a1 : addD (.lst []) (.lst (mI n fun _ => .tup [.str "come"])) = some (oL ((List.replicate n Dd.come).map eDd)) := by
        rw [addD_lst (by simp; omega), mI_const]
        simp [oL, eDd]
      have a2 : addD (.lst []) (.lst (mI n fun _ => .int 0)) = some (oL ((List.replicate n 0).map eNat)) := by
        rw [addD_lst (by simp; omega), mI_const]
        simp [oL, eNat]
      have e1 : lb__law_written_1 [some (.sh c.eRows), some (.sh (ePlan (.come n :: ls))), some (.sh (.lst [])), some (.sh (.lst [])), some (.sh (eLn (.come n))), none, none] =
          .nx (wrE c (.come n :: ls) (List.replicate n Dd.come) (List.replicate n 0) (some (.sh (eLn (.come n)))) none none) := by
        simp [lb__law_written_1, wrE, ix_come0 hz, ix_come1 hz, eq_cc, oL, m1, m2]
        simp [a1, oL, ix_come1 hz, m2, a2]
      rw [List.length_cons] at hP
      obtain ⟨u4, u5, u6, e2⟩ := wr_loop ok (P := .come n :: ls) hm ls (List.replicate n Dd.come) (List.replicate n 0) (some (.sh (eLn (.come n)))) none none (fun x hx => hl x (List.mem_cons_of_mem _ hx)) rfl (by simp; omega) (by simp; omega)
      refine mk0_rt rfl (r := [some (.sh c.eRows), some (.sh (ePlan (.come n :: ls))), some (.sh (.lst ((c.wr (.come n :: ls) []).1.map eDd))), some (oL ((c.wr (.come n :: ls) []).2.map eNat)), u4, u5, u6]) ?_ rfl
      have hs : seq? (ePlan (.come n :: ls)) = some (eLn (.come n) :: ls.map eLn) := rfl
      have e3 : forL (gN 4) lb__law_written_1 (eLn (.come n) :: ls.map eLn) [some (.sh c.eRows), some (.sh (ePlan (.come n :: ls))), some (.sh (.lst [])), some (.sh (.lst [])), none, none, none] =
          .nx (wrE c (.come n :: ls) (c.wr (.come n :: ls) []).1 (c.wr (.come n :: ls) []).2 u4 u5 u6) := by
        rw [forL_nx rfl e1, e2]
        simp [Cs.wr, Cs.wline]
      unfold wrE at e3
      simp [b__law_written, initE, hs, e3]
      simp [oL]
/-! ### pooled -/
theorem is_coming_come : Φ_is_coming [.sh (eDd .come)] = .ok (.sh (.bl true)) [.sh (eDd .come)] := by
  refine mk0_rt rfl (r := [some (.sh (eDd .come))]) ?_ rfl
  have h : Sq [.str "come"] (eDd .come) := .inr rfl
  have i0 : ixD (eDd .come) (.int 0) = some (.sh (.str "come")) := rfl
  simp [b_is_coming, initE, is_row_ev h, i0, is_word_ev eq_cc]
theorem is_coming_ask {g k : Nat} : Φ_is_coming [.sh (eDd (.ask g k))] = .ok (.sh (.bl false)) [.sh (eDd (.ask g k))] := by
  refine mk0_rt rfl (r := [some (.sh (eDd (.ask g k)))]) ?_ rfl
  have h : Sq [.str "visit", .int g, .int k] (eDd (.ask g k)) := .inr rfl
  simp [b_is_coming, initE, is_row_ev h]
theorem is_asking_ev {g k n : Nat} (hg : g < n) (hk : k < c.K) : Φ_is_asking [.sh c.eBook, .sh (eDd (.ask g k)), .sh (.int n)] = .ok (.sh (.bl true)) [.sh c.eBook, .sh (eDd (.ask g k)), .sh (.int n)] := by
  refine mk0_rt rfl (r := [some (.sh c.eBook), some (.sh (eDd (.ask g k))), some (.sh (.int n))]) ?_ rfl
  have h : Sq [.str "visit", .int g, .int k] (eDd (.ask g k)) := .inr rfl
  have i0 : ixD (eDd (.ask g k)) (.int 0) = some (.sh (.str "visit")) := rfl
  have i1 : ixD (eDd (.ask g k)) (.int 1) = some (.sh (.int g)) := rfl
  have i2 : ixD (eDd (.ask g k)) (.int 2) = some (.sh (.int k)) := rfl
  simp [b_is_asking, initE, is_row_ev h, i0, i1, i2, is_word_ev eq_vv, is_below_nat hg, is_below_nat hk]
theorem npd_loop {d : D} : ∀ (ds : List Dd) (j : Nat) (p p' : PSt) (x3 x4 : Option O), c.pruns ds p = some p' →
    ∃ u3 u4, forL (gT (gC (gN 3) (gC (gN 4) gE))) lb_need_pool_deeds_0 (enumL j (ds.map eDd)) [some (.sh c.eBook), some (.sh d), some (.sh (.int p.st.length)), x3, x4] = .nx [some (.sh c.eBook), some (.sh d), some (.sh (.int p'.st.length)), u3, u4]
  | [], j, p, p', x3, x4, e => by cases e; exact ⟨x3, x4, rfl⟩
  | a :: ds, j, p, p', x3, x4, e => by
    simp only [Cs.pruns] at e
    cases e1 : c.pstep p a with
    | none => rw [e1] at e; cases e
    | some p1 =>
      rw [e1, Option.bind_some] at e
      obtain ⟨u3, u4, h⟩ := npd_loop ds (j + 1) p1 p' (some (.sh (.int j))) (some (.sh (eDd a))) e
      refine ⟨u3, u4, ?_⟩
      rw [List.map_cons]
      unfold enumL
      rw [forL_nx (ρ1 := [some (.sh c.eBook), some (.sh d), some (.sh (.int p.st.length)), some (.sh (.int j)), some (.sh (eDd a))]) (r := [some (.sh c.eBook), some (.sh d), some (.sh (.int p1.st.length)), some (.sh (.int j)), some (.sh (eDd a))]) rfl ?_, h]
      cases a with
      | come =>
        cases e1
        simp [lb_need_pool_deeds_0, is_coming_come]
      | ask g k =>
        simp only [Cs.pstep] at e1
        cases hg : p.st[g]? with
        | none => rw [hg] at e1; cases e1
        | some s =>
          simp only [hg] at e1
          cases hn : c.cell s k with
          | none => rw [hn] at e1; cases e1
          | some n =>
            simp only [hn] at e1
            split at e1
            · rename_i hk
              cases e1
              have hgl := (List.getElem?_eq_some_iff.mp hg).1
              simp [lb_need_pool_deeds_0, is_coming_ask, is_asking_ev hgl hk.1]
            · cases e1
theorem pool_answer_ev {ans : List Bool} {st : List Nat} {po : Nat → Int} {g k s n : Nat} (hg : st[g]? = some s) (hs : s < c.S) (hk : k < c.K) (hn : c.cell s k = some n) (hf : ∀ i, i < c.C → c.fee k i ≤ po i) :
    Φ_pool_answer [.sh c.eBook, .sh c.eDoors, oL (st.map eNat), .sh (.tup (vI c.C po)), .sh (eDd (.ask g k))] = .ok (.sh (.str "let")) [.sh c.eBook, .sh c.eDoors, oL (st.map eNat), .sh (.tup (vI c.C po)), .sh (eDd (.ask g k))] := by
  refine mk0_rt rfl (r := [some (.sh c.eBook), some (.sh c.eDoors), some (oL (st.map eNat)), some (.sh (.tup (vI c.C po))), some (.sh (eDd (.ask g k))), some (.sh (.int s))]) ?_ rfl
  have i1 : ixD (eDd (.ask g k)) (.int 1) = some (.sh (.int g)) := rfl
  have i2 : ixD (eDd (.ask g k)) (.int 2) = some (.sh (.int k)) := rfl
  have hgl := (List.getElem?_eq_some_iff.mp hg).1
  have at1 : atI (st.map (O.sh ∘ eNat)) (g : Int) = some (.sh (.int s)) := by
    rw [atI_map, atI_nat' hgl, (List.getElem?_eq_some_iff.mp hg).2]
    rfl
  have hco := covers_ev (x := .tup (vI c.C po)) (y := .tup (vI c.C (c.fee k))) rfl rfl
  rw [decide_eq_true hf] at hco
  simp [b_pool_answer, initE, oL, i1, i2, at1, ix_vis hk, hco, ix_rows hs, ix_row hk, hn]
theorem in_let : inD (.str "let") (.tup [.str "let", .str "cheat"]) = some true := by decide +kernel
theorem pooled_loop (ok : c.Ok) {d : D} : ∀ (ds : List Dd) (p p' : PSt) (x6 : Option O), c.pruns ds p = some p' → (∀ s ∈ p.st, s < c.S) → p.ans.length + ds.length ≤ 100000 → p.st.length + ds.length ≤ 100000 →
    ∃ u6, forL (gN 6) lb_pooled_0 (ds.map eDd) [some (.sh c.eBook), some (.sh c.eDoors), some (.sh d), some (oL (p.ans.map eAns)), some (oL (p.st.map eNat)), some (.sh (.tup (vI c.C p.po))), x6] =
      .nx [some (.sh c.eBook), some (.sh c.eDoors), some (.sh d), some (oL (p'.ans.map eAns)), some (oL (p'.st.map eNat)), some (.sh (.tup (vI c.C p'.po))), u6] ∧ ∀ s ∈ p'.st, s < c.S
  | [], p, p', x6, e, hs, _, _ => by cases e; exact ⟨x6, rfl, hs⟩
  | a :: ds, p, p', x6, e, hs, ha, hst => by
    simp only [Cs.pruns] at e
    rw [List.length_cons] at ha hst
    cases e1 : c.pstep p a with
    | none => rw [e1] at e; cases e
    | some p1 =>
      rw [e1, Option.bind_some] at e
      have hz1 : p.ans.length < sizeLine := Nat.lt_of_lt_of_le (show p.ans.length < 100000 by omega) (by decide)
      have hz2 : p.st.length < sizeLine := Nat.lt_of_lt_of_le (show p.st.length < 100000 by omega) (by decide)
      have key : lb_pooled_0 [some (.sh c.eBook), some (.sh c.eDoors), some (.sh d), some (oL (p.ans.map eAns)), some (oL (p.st.map eNat)), some (.sh (.tup (vI c.C p.po))), some (.sh (eDd a))] =
          .nx [some (.sh c.eBook), some (.sh c.eDoors), some (.sh d), some (oL (p1.ans.map eAns)), some (oL (p1.st.map eNat)), some (.sh (.tup (vI c.C p1.po))), some (.sh (eDd a))] ∧ (∀ s ∈ p1.st, s < c.S) ∧ p1.ans.length = p.ans.length + 1 ∧ p1.st.length ≤ p.st.length + 1 := by
        cases a with
        | come =>
          cases e1
          have l1 : lenD [eDd .come] = some (.sh (.int 1)) := rfl
          have hp := poured_ev (x := .tup (vI c.C p.po)) (y := c.ePurse) (t := 1) rfl rfl (Sm_30 (by unfold M30; omega) (by unfold M30; omega)) fun i _ => pu_Sm ok i
          have hv : (vI c.C fun i => p.po i + 1 * c.purse i) = vI c.C fun i => p.po i + c.purse i * 1 := vI_congr fun i _ => by omega
          rw [hv] at hp
          refine ⟨?_, fun s h => ?_, by simp, by simp⟩
          · simp [lb_pooled_0, l1, oL, hz1, hz2, hp]
            simp [eAns, eNat]
          · rcases List.mem_append.mp h with h | h
            · exact hs s h
            · rw [List.mem_singleton.mp h]; exact ok.S0
        | ask g k =>
          simp only [Cs.pstep] at e1
          cases hg : p.st[g]? with
          | none => rw [hg] at e1; cases e1
          | some s =>
            simp only [hg] at e1
            cases hn : c.cell s k with
            | none => rw [hn] at e1; cases e1
            | some n =>
              simp only [hn] at e1
              split at e1
              · rename_i hk
                cases e1
                have hgl := (List.getElem?_eq_some_iff.mp hg).1
                have hsS := hs s (List.mem_of_getElem? hg)
                have hpa := pool_answer_ev (c := c) (ans := []) hg hsS hk.1 hn hk.2
                have hpd := paid_ev (c := c) (k := k) (x := .tup (vI c.C p.po)) rfl rfl
                have l1 : lenD [eDd (.ask g k)] = some (.sh (.int 3)) := rfl
                have i1 : ixD (eDd (.ask g k)) (.int 1) = some (.sh (.int g)) := rfl
                have i2 : ixD (eDd (.ask g k)) (.int 2) = some (.sh (.int k)) := rfl
                have at1 : atI (p.st.map (O.sh ∘ eNat)) (g : Int) = some (.sh (.int s)) := by
                  rw [atI_map, atI_nat' hgl, (List.getElem?_eq_some_iff.mp hg).2]
                  rfl
                refine ⟨?_, fun x h => ?_, by simp, by simp⟩
                · unfold oL at hpa
                  simp at hpa
                  simp [lb_pooled_0, l1, oL, hpa, hz1, atI_last, in_let, i1, i2, ix_vis hk.1, hpd, at1, ix_rows hsS, ix_row hk.1, hn, ixN_nat hgl]
                  simp [eAns, eNat, List.map_set]
                · rcases List.mem_or_eq_of_mem_set h with h | rfl
                  · exact hs x h
                  · exact ok.cl s k _ hn
              · cases e1
      obtain ⟨k1, k2, k3, k4⟩ := key
      obtain ⟨u6, h, h2⟩ := pooled_loop ok (d := d) ds p1 p' (some (.sh (eDd a))) e k2 (by omega) (by omega)
      refine ⟨u6, ?_, h2⟩
      rw [List.map_cons, forL_nx rfl k1, h]
end
end Tk

set_option Elab.async false
set_option linter.all false
set_option maxRecDepth 100000
set_option maxHeartbeats 4000000
namespace Tk
open PySem PySem.Spec PyProof.Rows L2
section
variable {c : Cs}
def p00 : PSt := ⟨[], [], fun _ => 0⟩
theorem wr_len {m : Int} (hm : m ≤ 10) : ∀ {ls : List Ln} {st : List Nat}, (∀ l ∈ ls, c.line m l) → (c.wr ls st).1.length ≤ 10 * ls.length
  | [], st, _ => by simp [Cs.wr]
  | l :: ls, st, hl => by
    have h1 := (wline_len (st := st) (hl l List.mem_cons_self)).1
    have h2 := wr_len hm (ls := ls) (st := (c.wline st l).2) fun x hx => hl x (List.mem_cons_of_mem _ hx)
    simp only [Cs.wr, List.length_append, List.length_cons]
    omega
theorem pooled_ev (ok : c.Ok) {ds : List Dd} {p' : PSt} (h : c.pruns ds p00 = some p') (hd : ds.length ≤ 400) :
    Φ_pooled [.sh c.eBook, .sh c.eDoors, .sh (.lst (ds.map eDd))] = .ok (.sh (.tup [.tup (p'.ans.map eAns), .tup (p'.st.map eNat), .tup (vI c.C p'.po)])) [.sh c.eBook, .sh c.eDoors, .sh (.lst (ds.map eDd))] ∧ ∀ s ∈ p'.st, s < c.S := by
  obtain ⟨u3, u4, e1⟩ := npd_loop (d := .lst (ds.map eDd)) ds 0 p00 p' none none h
  obtain ⟨u6, e2, hs⟩ := pooled_loop ok (d := .lst (ds.map eDd)) ds p00 p' none h (fun _ h => nomatch h) (by simp [p00]; omega) (by simp [p00]; omega)
  refine ⟨?_, hs⟩
  have hnp : Φ_need_pool_deeds [.sh c.eBook, .sh (.lst (ds.map eDd))] = .ok (.sh .non) [.sh c.eBook, .sh (.lst (ds.map eDd))] := by
    refine mk0_nx rfl (r := [some (.sh c.eBook), some (.sh (.lst (ds.map eDd))), some (.sh (.int p'.st.length)), u3, u4]) ?_ rfl
    have hlt : ¬ (400 : Int) < ds.length := by omega
    have he : enum1 [.lst (ds.map eDd)] = some (enumL 0 (ds.map eDd)) := enum1_sq (.inl rfl)
    unfold p00 at e1
    simp at e1
    simp [b_need_pool_deeds, initE, is_sequence_lst, hlt, he, e1]
  refine mk0_rt rfl (r := [some (.sh c.eBook), some (.sh c.eDoors), some (.sh (.lst (ds.map eDd))), some (.sh (.lst (p'.ans.map eAns))), some (.sh (.lst (p'.st.map eNat))), some (.sh (.tup (vI c.C p'.po))), u6]) ?_ rfl
  unfold p00 oL at e2
  simp at e2
  simp [b_pooled, initE, need_book_ev, need_doors_ev, hnp, zmul_tup ok, e2]
theorem eAns_pl {n : Nat} {b : Bool} : Pl n (eAns b) := by cases b <;> exact Pl_at (by decide +kernel)
theorem ne_ans {b : Bool} : (∃ k, neD (eAns b) (.str "come") = some k ∧ (k = true → neD (eAns b) (.str "let") = some false)) := by
  cases b
  · exact ⟨true, by decide +kernel, fun _ => by decide +kernel⟩
  · exact ⟨false, by decide +kernel, fun h => nomatch h⟩
theorem filter_eq_count : ∀ (st : List Nat) (i : Nat), ((st.filter fun s => s == i).length) = st.count i
  | [], i => rfl
  | s :: st, i => by
    rw [List.filter_cons, List.count_cons]
    split <;> simp_all [filter_eq_count st i]
theorem is_written_ev (ok : c.Ok) {m : Int} {P : List Ln} {q : PS'} (hm : m ≤ 10) (hl : ∀ l ∈ P, c.line m l) (hr : c.run P 0 z0 = .fin q) (hP : P.length ≤ 40) :
    Φ__law_is_written [.sh c.eBook, .sh c.eDoors, .sh c.eRows, .sh (ePlan P), .sh (eEnd c (.fin q))] = .ok (.sh (.bl true)) [.sh c.eBook, .sh c.eDoors, .sh c.eRows, .sh (ePlan P), .sh (eEnd c (.fin q))] := by
  obtain ⟨an, hp, hcnt⟩ := c.pruns_plan (w := p00) hl hr rfl (fun s => by simp [z0, p00])
  have hlen : (c.wr P []).1.length ≤ 400 := Nat.le_trans (wr_len hm hl) (by omega)
  obtain ⟨hpe, hsS⟩ := pooled_ev ok hp hlen
  have hwr := written_ev ok hm hl hr (by omega)
  simp only [p00, List.nil_append] at hpe
  have hS := ok.S1
  have hC := ok.C1
  let told : D := .tup [.tup (an.map eAns), .tup ((c.wr P []).2.map eNat), .tup (vI c.C q.2)]
  have t0 : ixD told (.int 0) = some (.sh (.tup (an.map eAns))) := rfl
  have t1 : ixD told (.int 1) = some (.sh (.tup ((c.wr P []).2.map eNat))) := rfl
  have t2' : ixD told (.int 2) = some (.sh (.tup (vI c.C q.2))) := rfl
  have en1 : ixD (eEnd c (.fin q)) (.int 1) = some (.sh (.tup (vI c.S q.1))) := rfl
  have en2 : ixD (eEnd c (.fin q)) (.int 2) = some (.sh (.tup (vI c.C q.2))) := rfl
  have it : isB "tuple" told = some true := isB_tuple_tup
  have lt : lenD [told] = some (.sh (.int 3)) := rfl
  have c1 : ∀ (l0 l1 l2 l3 l4 l6 l8 l9 : Option O), compE (gN 7) (tAn (t2 neD (eVar 7) (eC (.str "come"))) (t2 neD (eVar 7) (eC (.str "let")))) ce__law_is_written_0 [7] (an.map eAns) [l0, l1, l2, l3, l4, some (.sh told), l6, none, l8, l9] = .ok (.lst []) [l0, l1, l2, l3, l4, some (.sh told), l6, none, l8, l9] := by
    intro l0 l1 l2 l3 l4 l6 l8 l9
    refine (comp_gN (fun _ => false) (fun _ => .sh .non) rfl (fun d hd => ?_) (fun d hd h => nomatch h)).trans ?_
    · obtain ⟨b, _, rfl⟩ := List.mem_map.mp hd
      obtain ⟨k, h1, h2⟩ := ne_ans (b := b)
      cases k with
      | true => simp [h1, h2 rfl]
      | false => simp [h1]
    · rw [filter_false]
      rfl
  have n0 : neD (.lst []) (.lst []) = some false := neD_same (n := 1) (fun _ h => nomatch h) (by decide)
  have c3 : ∀ (i : Nat) (l0 l1 l2 l3 l4 l6 l7 : Option O), ce__law_is_written_2 [l0, l1, l2, l3, l4, some (.sh told), l6, l7, some (.sh (.int i)), none] = .ok (.sh (.int (((c.wr P []).2.count i : Nat) : Int))) [l0, l1, l2, l3, l4, some (.sh told), l6, l7, some (.sh (.int i)), none] := by
    intro i l0 l1 l2 l3 l4 l6 l7
    have hc : compE (gN 9) (t2 eqD (eVar 9) (eVar 8)) ce__law_is_written_1 [9] ((c.wr P []).2.map eNat) [l0, l1, l2, l3, l4, some (.sh told), l6, l7, some (.sh (.int i)), none] =
        .ok (.lst (((((c.wr P []).2.map eNat).filter fun d => match d with | .int j => j == (i : Int) | _ => false)).map O.sh)) [l0, l1, l2, l3, l4, some (.sh told), l6, l7, some (.sh (.int i)), none] := by
      refine comp_gN (fun d => match d with | .int j => j == (i : Int) | _ => false) O.sh rfl (fun d hd => ?_) (fun d hd h => by simp [ce__law_is_written_1])
      obtain ⟨j, _, rfl⟩ := List.mem_map.mp hd
      simp [eNat]
    have hlen2 : ((((c.wr P []).2.map eNat).filter fun d => match d with | .int j => j == (i : Int) | _ => false)).length = (c.wr P []).2.count i := by
      rw [List.filter_map, List.length_map, ← filter_eq_count]
      congr 2
      funext s
      simp [eNat]
      rw [Bool.eq_iff_iff]
      simp
      omega
    simp [ce__law_is_written_2, t1, hc, hlen2]
  have hv : (vI c.S fun i => (((c.wr P []).2.count i : Nat) : Int)) = vI c.S q.1 := vI_congr fun i _ => (hcnt i).symm
  refine mk0_rt rfl (r := [some (.sh c.eBook), some (.sh c.eDoors), some (.sh c.eRows), some (.sh (ePlan P)), some (.sh (eEnd c (.fin q))), some (.sh told), some (.sh (.tup (vI c.S q.1))), none, none, none]) ?_ rfl
  simp [b__law_is_written, initE, hwr, hpe]
  rw [show (D.tup [.tup (an.map eAns), .tup ((c.wr P []).2.map eNat), .tup (vI c.C q.2)]) = told from rfl]
  simp [t0, c1, n0, rng1_ok' (show c.S ≤ 16777216 by omega), it, lt]
  rw [comp_mI (fun i => .sh (.int (((c.wr P []).2.count i : Nat) : Int))) rfl (by simp) fun i hi => by simpa using c3 i _ _ _ _ _ _ _]
  have hv2 : (List.range c.S).map (fun i => D.int (((c.wr P []).2.count i : Nat) : Int)) = vI c.S q.1 := hv
  simp [hv2, t2', en1, en2, same_ev 6 (.tup (vI c.C q.2)) (dp_vI (by omega)), eqD_same (n := 1) (d := .tup (vI c.S q.1)) Pl_tupI (by decide)]
end
end Tk

set_option Elab.async false
set_option linter.all false
set_option maxRecDepth 100000
set_option maxHeartbeats 4000000
namespace Tk
open PySem PySem.Spec PyProof.Rows L2
section
variable {c : Cs}
/-! ## how great the sums get -/
def Bd (B : Nat) (q : PS') : Prop := ∀ i, (q.1 i).natAbs ≤ B ∧ (q.2 i).natAbs ≤ B
def XX : Nat := 100000000000000000000
theorem prod_bd {a t : Int} (ha : a.natAbs ≤ 1000000000000000000) (h0 : 1 ≤ t) (h1 : t ≤ 10) : (a * t).natAbs ≤ XX / 10 := by
  rw [Int.natAbs_mul]
  exact Nat.le_trans (Nat.mul_le_mul ha (show t.natAbs ≤ 10 by omega)) (by decide)
theorem bd_step (ok : c.Ok) {l : Ln} (hl : c.line 10 l) {B : Nat} {p q : PS'} (h : Bd B p) (e : c.step p l = some q) : Bd (B + XX) q := by
  have hX : 100 ≤ XX := by decide
  have hX2 : XX / 10 ≤ XX := by decide
  cases l with
  | come t =>
    cases e
    intro i
    have h1 := (h i).1
    have h0 := (h 0).1
    have h2 := (h i).2
    obtain ⟨t1, t2⟩ := hl
    have pu := ok.pu i
    have pb := prod_bd (a := c.purse i) (t := t) (by unfold M18 at pu; omega) t1 t2
    simp only [Cs.comes]
    constructor
    · split <;> omega
    · omega
  | visit s k t =>
    obtain ⟨_, _, _, t1, t2⟩ := hl
    simp only [Cs.step, Cs.move] at e
    split at e
    · cases e
      intro i
      have h1 := (h i).1
      have h0 := (h s).1
      have h2 := (h i).2
      have fe := ok.fe k i
      have ga := ok.ga k i
      have pb := prod_bd (a := c.gain k i - c.fee k i) (t := t) (by unfold M18 at fe ga; omega) t1 t2
      simp only [Cs.goC, Cs.goP]
      constructor
      · split <;> split <;> omega
      · omega
    · cases e
theorem bd_run (ok : c.Ok) : ∀ {ls : List Ln} {n B : Nat} {p q : PS'}, (∀ l ∈ ls, c.line 10 l) → Bd B p → c.run ls n p = .fin q → Bd (B + ls.length * XX) q
  | [], n, B, p, q, _, h, e => by cases e; simpa using h
  | l :: ls, n, B, p, q, hl, h, e => by
    simp only [Cs.run] at e
    cases e1 : c.step p l with
    | none => rw [e1] at e; cases e
    | some r =>
      rw [e1] at e
      have := bd_run ok (fun x hx => hl x (List.mem_cons_of_mem _ hx)) (bd_step ok (hl l List.mem_cons_self) h e1) e
      rw [List.length_cons, Nat.succ_mul, Nat.add_comm _ XX, ← Nat.add_assoc]
      exact this
theorem bd_z0 : Bd 0 z0 := fun _ => ⟨Nat.le_refl _, Nat.le_refl _⟩
theorem padd_z0 {q : PS'} : padd q z0 = q := by
  unfold padd z0
  ext <;> simp
theorem pmul_z0 {f : Int} : pmul f z0 = z0 := by
  unfold pmul z0
  ext <;> simp
theorem ePlan_add {p q : List Ln} (h : p.length + q.length ≤ 1000) : addD (ePlan p) (ePlan q) = some (.sh (ePlan (p ++ q))) := by
  unfold ePlan
  rw [addD_tup (by simp; omega), List.map_append]
/-! ## the law -/
/-- a plan that may be asked of -/
def Fine (c : Cs) (p : List Ln) : Prop := p.length ≤ 200 ∧ ∀ l ∈ p, c.line M30 l
theorem inner_step (ok : c.Ok) {p : List Ln} (hp : Fine c p) {x0 x2 x8 x9 x10 x11 x13 x14 x15 x16 x17 x18 : Option O} {b : O} (hb : IsBox b) : ∃ b', IsBox b' ∧
    lb_law_0 [x0, some b, x2, some (.sh c.eRows), some (.sh c.ePurse), some (.sh c.eVis), some (.sh c.eBook), some (.sh c.eDoors), x8, x9, x10, x11, some (.sh (ePlan p)), x13, x14, x15, x16, x17, x18] =
      .nx [x0, some b', x2, some (.sh c.eRows), some (.sh c.ePurse), some (.sh c.eVis), some (.sh c.eBook), some (.sh c.eDoors), x8, x9, x10, x11, some (.sh (ePlan p)), x13, x14, x15, x16, x17, x18] := by
  obtain ⟨d, b', hb', hd, e⟩ := loose_plan (p := p) (by have := hp.1; omega) hb
  refine ⟨b', hb', ?_⟩
  have h1 := carried_ev ok hd hp.2 hp.1
  have h2 := law_plan_end_ev ok hp.2 (by have := hp.1; omega)
  simp [lb_law_0, e, h1, h2, same_ev 6 _ (dp_end ok)]
theorem inner_loop (ok : c.Ok) (ps : List (List Ln)) (hp : ∀ p ∈ ps, Fine c p) {x0 x2 x8 x9 x10 x11 x12 x13 x14 x15 x16 x17 x18 : Option O} {b : O} (hb : IsBox b) : ∃ b' u12, IsBox b' ∧
    forL (gN 12) lb_law_0 (ps.map ePlan) [x0, some b, x2, some (.sh c.eRows), some (.sh c.ePurse), some (.sh c.eVis), some (.sh c.eBook), some (.sh c.eDoors), x8, x9, x10, x11, x12, x13, x14, x15, x16, x17, x18] =
      .nx [x0, some b', x2, some (.sh c.eRows), some (.sh c.ePurse), some (.sh c.eVis), some (.sh c.eBook), some (.sh c.eDoors), x8, x9, x10, x11, u12, x13, x14, x15, x16, x17, x18] := by
  induction ps generalizing b x12 with
  | nil => exact ⟨b, x12, hb, rfl⟩
  | cons p ps ih =>
    obtain ⟨b1, hb1, e1⟩ := inner_step ok (hp p List.mem_cons_self) (x0 := x0) (x2 := x2) (x8 := x8) (x9 := x9) (x10 := x10) (x11 := x11) (x13 := x13) (x14 := x14) (x15 := x15) (x16 := x16) (x17 := x17) (x18 := x18) hb
    obtain ⟨b2, u12, hb2, e2⟩ := ih (fun q hq => hp q (List.mem_cons_of_mem _ hq)) (x12 := some (.sh (ePlan p))) hb1
    refine ⟨b2, u12, hb2, ?_⟩
    rw [List.map_cons, forL_nx rfl e1, e2]
theorem frz_book : frz (.ins 0 [("kinds", .sh (.int c.K)), ("rows", .sh c.eRows)]) = c.eBook := by simp [frz, frzF, Cs.eBook]
theorem frz_doors : frz (.ins 1 [("purse", .sh c.ePurse), ("visits", .sh c.eVis)]) = c.eDoors := by simp [frz, frzF, Cs.eDoors]
theorem eq_let : neD (.str "let") (.str "let") = some false := by decide +kernel
theorem end0 {q : PS'} : ixD (eEnd c (.fin q)) (.int 0) = some (.sh (.str "let")) := rfl
theorem end1 {q : PS'} : ixD (eEnd c (.fin q)) (.int 1) = some (.sh (.tup (vI c.S q.1))) := rfl
theorem end2 {q : PS'} : ixD (eEnd c (.fin q)) (.int 2) = some (.sh (.tup (vI c.C q.2))) := rfl
theorem p9 : iiD powC (fun i j => i ^ j.toNat) (.int 10) (.int 9) = some (.sh (.int 1000000000)) := powD_ok (i := 10) (j := 9) ⟨by decide, by decide, by decide⟩
theorem p28 : iiD powC (fun i j => i ^ j.toNat) (.int 10) (.int 28) = some (.sh (.int 10000000000000000000000000000)) := powD_ok (i := 10) (j := 28) ⟨by decide, by decide, by decide⟩
def lawE (x0 : Option O) (b : O) (x2 x3 x4 x5 x6 x7 x8 x9 x10 x11 x12 x13 x14 x15 x16 : Option O) : Env := [x0, some b, x2, x3, x4, x5, x6, x7, x8, x9, x10, x11, x12, x13, x14, x15, x16, none, none]
theorem law_turn {x0 : Option O} {b : O} (hb : IsBox b) {x2 x3 x4 x5 x6 x7 x8 x9 x10 x11 x12 x13 x14 x15 x16 : Option O} : ∃ b' u3 u4 u5 u6 u7 u8 u9 u10 u11 u12 u13 u14 u15 u16, IsBox b' ∧
    lb_law_1 (lawE x0 b x2 x3 x4 x5 x6 x7 x8 x9 x10 x11 x12 x13 x14 x15 x16) = .nx (lawE x0 b' x2 u3 u4 u5 u6 u7 u8 u9 u10 u11 u12 u13 u14 u15 u16) := by
  obtain ⟨c, b1, hb1, ok, e1⟩ := crowd_case_ev hb
  obtain ⟨b2, hb2, e2⟩ := law_book_ev ok hb1
  obtain ⟨b3, hb3, e3⟩ := law_doors_ev ok hb2
  obtain ⟨n', b4, n0, n1, hb4, e4⟩ := take_ev (many := 20) hb3 (by decide)
  obtain ⟨n, hn⟩ : ∃ n : Nat, 1 + n' = n := ⟨(1 + n').toNat, by omega⟩
  obtain ⟨p, q1, b5, hb5, hpl, hpm, hpr, e5⟩ := drawn_ev ok (n := n) (most := 3) hb4 (by decide) (by unfold M30; omega) (by omega)
  obtain ⟨m', b6, m0, m1, hb6, e6⟩ := take_ev (many := 20) hb5 (by decide)
  obtain ⟨m, hm⟩ : ∃ n : Nat, 1 + m' = n := ⟨(1 + m').toNat, by omega⟩
  obtain ⟨o, q2, b7, hb7, hol, hom, hor, e7⟩ := drawn_ev ok (n := m) (most := 8) hb6 (by decide) (by unfold M30; omega) (by omega)
  obtain ⟨x, b8, hx, hb8, e8⟩ := pick_ev (xs := [.int 1, .int 2, .int 1000000000, .int 10000000000000000000000000000]) hb7 (List.cons_ne_nil _ _)
  obtain ⟨f, rfl, hf1, hf2⟩ : ∃ f : Int, x = .int f ∧ 1 ≤ f ∧ f ≤ 10000000000000000000000000000 := by
    simp at hx
    rcases hx with rfl | rfl | rfl | rfl
    · exact ⟨1, rfl, by omega, by omega⟩
    · exact ⟨2, rfl, by omega, by omega⟩
    · exact ⟨_, rfl, by omega, by omega⟩
    · exact ⟨_, rfl, by omega, by omega⟩
  obtain ⟨w, b9, hb9, hwl, hwm, e9⟩ := turned_ev (c := c) (p := p) hb8 (by intro z; rw [z] at hpl; simp at hpl; omega) (by omega) hpm
  have mono : ∀ {a : Int} {l : Ln}, a ≤ 10 → c.line a l → c.line M30 l := fun ha h => line_mono (by unfold M30; omega) h
  have hpM : ∀ l ∈ p, c.line M30 l := fun l h => mono (by decide) (hpm l h)
  have hoM : ∀ l ∈ o, c.line M30 l := fun l h => mono (by decide) (hom l h)
  have hwM : ∀ l ∈ w, c.line M30 l := fun l h => mono (by decide) (hwm l h)
  have hfS : Sm f := Sm_30 (by unfold M30; omega) (by unfold M30; omega)
  have hpt : ∀ l ∈ p, Sm l.t := fun l h => by
    have := line_t (hpm l h)
    exact Sm_30 (by unfold M30; omega) (by unfold M30; omega)
  have hmulM : ∀ l ∈ p.map (Ln.mul f), c.line M30 l := fun l h => by
    obtain ⟨k, hk, rfl⟩ := List.mem_map.mp h
    have hk := hpm k hk
    have b1 : ∀ t : Int, 1 ≤ t → t ≤ 3 → 1 ≤ t * f ∧ t * f ≤ M30 := fun t h1 h2 => by
      have : t = 1 ∨ t = 2 ∨ t = 3 := by omega
      unfold M30
      rcases this with rfl | rfl | rfl <;> omega
    cases k with
    | come t => exact b1 t hk.1 hk.2
    | visit s k t => exact ⟨hk.1, hk.2.1, hk.2.2.1, b1 t hk.2.2.2.1 hk.2.2.2.2⟩
  have e10 := times_over_ev hfS hpt
  have app : ∀ {a b : List Ln}, (∀ l ∈ a, c.line M30 l) → (∀ l ∈ b, c.line M30 l) → ∀ l ∈ a ++ b, c.line M30 l := fun ha hb l h => (List.mem_append.mp h).elim (ha l) (hb l)
  have hps : ∀ s ∈ [p, o, p ++ o, o ++ p, w, p.map (Ln.mul f), w ++ o], Fine c s := by
    intro s hs
    simp at hs
    rcases hs with rfl | rfl | rfl | rfl | rfl | rfl | rfl
    · exact ⟨by omega, hpM⟩
    · exact ⟨by omega, hoM⟩
    · exact ⟨by simp; omega, app hpM hoM⟩
    · exact ⟨by simp; omega, app hoM hpM⟩
    · exact ⟨by omega, hwM⟩
    · exact ⟨by simp; omega, hmulM⟩
    · exact ⟨by simp; omega, app hwM hoM⟩
  obtain ⟨b10, u12, hb10, e11⟩ := inner_loop ok [p, o, p ++ o, o ++ p, w, p.map (Ln.mul f), w ++ o] hps (x0 := x0) (x2 := x2) (x8 := some (.sh (ePlan p))) (x9 := some (.sh (ePlan o))) (x10 := some (.sh (.int f))) (x11 := some (.sh (ePlan w))) (x12 := x12) (x13 := x13) (x14 := x14) (x15 := x15) (x16 := x16) (x17 := none) (x18 := none) hb9
  have hboth : c.run (p ++ o) 0 z0 = .fin (padd q1 q2) := by
    rw [c.run_append, hpr]
    simp only
    have := Cs.run_add (Cs.nn_run ok hpM nn_z0 hpr) (c.run_fin_n o 0 (0 + p.length) z0 q2 hor)
    rw [padd_z0] at this
    exact this
  have hover : c.run (p.map (Ln.mul f)) 0 z0 = .fin (pmul f q1) := by
    have := Cs.run_mul ok hf1 hpr
    rw [pmul_z0] at this
    exact this
  have lp := law_plan_end_ev ok hpM (by omega)
  have lo := law_plan_end_ev ok hoM (by omega)
  rw [hpr] at lp
  rw [hor] at lo
  have cb := carried_ev ok (LPlan_refl (p := p ++ o)) (app hpM hoM) (by simp; omega)
  rw [hboth] at cb
  have co := carried_ev ok (LPlan_refl (p := p.map (Ln.mul f))) hmulM (by simp; omega)
  rw [hover] at co
  have hbd := bd_run ok (fun l h => line_mono (by decide) (hpm l h)) bd_z0 hpr
  have hq1 : ∀ i, Sm (q1.1 i) ∧ Sm (q1.2 i) := fun i => by
    have := hbd i
    rw [hpl] at this
    have hn20 : n ≤ 20 := by omega
    have hmx : 0 + n * XX ≤ 2 ^ 200 := Nat.le_trans (show 0 + n * XX ≤ 20 * XX by rw [Nat.zero_add]; exact Nat.mul_le_mul_right _ hn20) (by decide)
    exact ⟨Sm_le (Nat.le_trans this.1 hmx), Sm_le (Nat.le_trans this.2 hmx)⟩
  have wr := is_written_ev ok (by decide) hpm hpr (by omega)
  have hS := ok.S1
  have hC := ok.C1
  have v1 : (vI c.S fun i => q1.1 i + q2.1 i) = vI c.S (padd q1 q2).1 := rfl
  have v2 : (vI c.C fun i => q1.2 i + q2.2 i) = vI c.C (padd q1 q2).2 := rfl
  have v3 : (vI c.S fun i => q1.1 i * f) = vI c.S (pmul f q1).1 := rfl
  have v4 : (vI c.C fun i => q1.2 i * f) = vI c.C (pmul f q1).2 := rfl
  have ne : ∀ {n : Nat} {g : Nat → Int}, neD (.tup (vI n g)) (.tup (vI n g)) = some false := neD_same (n := 1) Pl_tupI (by decide)
  have c0 : ∀ (l0 l1 l2 l3 l4 l5 l6 l7 l8 l9 l10 l11 l12 l15 l16 : Option O), compE (gN 17) tTrue ce_law_0 [17] (mI c.S fun i => .int i) [l0, l1, l2, l3, l4, l5, l6, l7, l8, l9, l10, l11, l12, some (.sh (eEnd c (.fin q1))), some (.sh (eEnd c (.fin q2))), l15, l16, none, none] =
      .ok (.lst ((vI c.S (padd q1 q2).1).map O.sh)) [l0, l1, l2, l3, l4, l5, l6, l7, l8, l9, l10, l11, l12, some (.sh (eEnd c (.fin q1))), some (.sh (eEnd c (.fin q2))), l15, l16, none, none] := by
    intros
    refine (comp_mI (fun i => .sh (.int (q1.1 i + q2.1 i))) rfl (by simp) fun i hi => by simp [ce_law_0, end1, atI_vI hi]).trans ?_
    rw [← v1]
    simp [vI, mI]
  have c1 : ∀ (l0 l1 l2 l3 l4 l5 l6 l7 l8 l9 l10 l11 l12 l15 l16 : Option O), compE (gN 17) tTrue ce_law_1 [17] (mI c.C fun i => .int i) [l0, l1, l2, l3, l4, l5, l6, l7, l8, l9, l10, l11, l12, some (.sh (eEnd c (.fin q1))), some (.sh (eEnd c (.fin q2))), l15, l16, none, none] =
      .ok (.lst ((vI c.C (padd q1 q2).2).map O.sh)) [l0, l1, l2, l3, l4, l5, l6, l7, l8, l9, l10, l11, l12, some (.sh (eEnd c (.fin q1))), some (.sh (eEnd c (.fin q2))), l15, l16, none, none] := by
    intros
    refine (comp_mI (fun i => .sh (.int (q1.2 i + q2.2 i))) rfl (by simp) fun i hi => by simp [ce_law_1, end2, atI_vI hi]).trans ?_
    rw [← v2]
    simp [vI, mI]
  have c2 : ∀ (l0 l1 l2 l3 l4 l5 l6 l7 l8 l9 l11 l12 l13 l14 l15 l16 : Option O), compE (gN 18) tTrue ce_law_2 [18] (vI c.S q1.1) [l0, l1, l2, l3, l4, l5, l6, l7, l8, l9, some (.sh (.int f)), l11, l12, l13, l14, l15, l16, none, none] =
      .ok (.lst ((vI c.S (pmul f q1).1).map O.sh)) [l0, l1, l2, l3, l4, l5, l6, l7, l8, l9, some (.sh (.int f)), l11, l12, l13, l14, l15, l16, none, none] := by
    intros
    refine (comp_mI (fun i => .sh (.int (q1.1 i * f))) rfl (by simp) fun i hi => by simp [ce_law_2, (hq1 i).1.mul hfS]).trans ?_
    rw [← v3]
    simp [vI, mI]
  have c3 : ∀ (l0 l1 l2 l3 l4 l5 l6 l7 l8 l9 l11 l12 l13 l14 l15 l16 : Option O), compE (gN 18) tTrue ce_law_3 [18] (vI c.C q1.2) [l0, l1, l2, l3, l4, l5, l6, l7, l8, l9, some (.sh (.int f)), l11, l12, l13, l14, l15, l16, none, none] =
      .ok (.lst ((vI c.C (pmul f q1).2).map O.sh)) [l0, l1, l2, l3, l4, l5, l6, l7, l8, l9, some (.sh (.int f)), l11, l12, l13, l14, l15, l16, none, none] := by
    intros
    refine (comp_mI (fun i => .sh (.int (q1.2 i * f))) rfl (by simp) fun i hi => by simp [ce_law_3, (hq1 i).2.mul hfS]).trans ?_
    rw [← v4]
    simp [vI, mI]
  have l7 : ∀ a b c d e f g : D, lstD [a, b, c, d, e, f, g] = some (.lst ([a, b, c, d, e, f, g].map O.sh)) := fun a b c d e f g => lstD_ok (by show 7 ≤ sizeLine; decide)
  refine ⟨b10, some (.sh c.eRows), some (.sh c.ePurse), some (.sh c.eVis), some (.sh c.eBook), some (.sh c.eDoors), some (.sh (ePlan p)), some (.sh (ePlan o)), some (.sh (.int f)), some (.sh (ePlan w)), u12, some (.sh (eEnd c (.fin q1))), some (.sh (eEnd c (.fin q2))), some (.sh (eEnd c (.fin (padd q1 q2)))), some (.sh (eEnd c (.fin (pmul f q1)))), hb10, ?_⟩
  unfold lb_law_1 lawE
  simp only [List.map_cons, List.map_nil] at e11
  simp [e1, eCase, e2, e3, frz_book, frz_doors, e4, hn, e5, e6, hm, e7, p9, p28, e8, e9, ePlan_add (p := p) (q := o) (by omega), ePlan_add (p := o) (q := p) (by omega), ePlan_add (p := w) (q := o) (by omega), e10, l7, e11, lp, lo, cb, co, end0, end1, end2, eq_let,
    rng1_ok' (show c.S ≤ 16777216 by omega), rng1_ok' (show c.C ≤ 16777216 by omega), c0, c1, c2, c3, ne, wr, is_book_ev ok, are_doors_ev ok]
theorem law_ev {ns : List Int} : Φ_law [.sh (.scr (ns.map D.int))] = .ok (.sh (.bl true)) [.sh (.scr (ns.map D.int))] := by
  obtain ⟨b, hb, e⟩ := law_box_ev (ns := ns)
  obtain ⟨b1, u3, u4, u5, u6, u7, u8, u9, u10, u11, u12, u13, u14, u15, u16, hb1, e1⟩ := law_turn (x0 := some (.sh (.scr (ns.map D.int)))) hb (x2 := some (.sh (.int 0))) (x3 := none) (x4 := none) (x5 := none) (x6 := none) (x7 := none) (x8 := none) (x9 := none) (x10 := none) (x11 := none) (x12 := none) (x13 := none) (x14 := none) (x15 := none) (x16 := none)
  obtain ⟨b2, v3, v4, v5, v6, v7, v8, v9, v10, v11, v12, v13, v14, v15, v16, hb2, e2⟩ := law_turn (x0 := some (.sh (.scr (ns.map D.int)))) hb1 (x2 := some (.sh (.int 1))) (x3 := u3) (x4 := u4) (x5 := u5) (x6 := u6) (x7 := u7) (x8 := u8) (x9 := u9) (x10 := u10) (x11 := u11) (x12 := u12) (x13 := u13) (x14 := u14) (x15 := u15) (x16 := u16)
  refine mk0_rt rfl (r := lawE (some (.sh (.scr (ns.map D.int)))) b2 (some (.sh (.int 1))) v3 v4 v5 v6 v7 v8 v9 v10 v11 v12 v13 v14 v15 v16) ?_ rfl
  have hr : rng1 [.int 2] = some [.int 0, .int 1] := by rfl
  unfold lawE at e1 e2 ⊢
  have h : forL (gN 2) lb_law_1 [.int 0, .int 1] [some (.sh (.scr (ns.map D.int))), some b, none, none, none, none, none, none, none, none, none, none, none, none, none, none, none, none, none] =
      .nx [some (.sh (.scr (ns.map D.int))), some b2, some (.sh (.int 1)), v3, v4, v5, v6, v7, v8, v9, v10, v11, v12, v13, v14, v15, v16, none, none] := by
    rw [forL_nx rfl e1, forL_nx rfl e2]
    rfl
  simp [b_law, initE, e, hr, h]
end
end Tk

set_option Elab.async false
set_option linter.all false
set_option maxRecDepth 100000
set_option maxHeartbeats 0
namespace Hdk66
open PySem PySem.Spec PyProof.Rows L2 Tk
abbrev R : PySem.W.OpenRow := PySem.W.OpenLaw.row PySem.Challenge.rw_takentickets_k66_whole_plans_carried
def dd__law_is_int : He.DefD := ⟨("_law_is_int", none), "_law_is_int", "_law_is_int", defArgs s__law_is_int, defBody s__law_is_int, defScope s__law_is_int, [], []⟩
def dd__law_same : He.DefD := ⟨("_law_same", none), "_law_same", "_law_same", defArgs s__law_same, defBody s__law_same, defScope s__law_same, [], []⟩
def dd__law_are_doors : He.DefD := ⟨("_law_are_doors", none), "_law_are_doors", "_law_are_doors", defArgs s__law_are_doors, defBody s__law_are_doors, defScope s__law_are_doors, [], []⟩
def dd_is_integer : He.DefD := ⟨("is_integer", none), "is_integer", "is_integer", defArgs s_is_integer, defBody s_is_integer, defScope s_is_integer, [], []⟩
def dd_is_below : He.DefD := ⟨("is_below", none), "is_below", "is_below", defArgs s_is_below, defBody s_is_below, defScope s_is_below, [], []⟩
def dd_is_between : He.DefD := ⟨("is_between", none), "is_between", "is_between", defArgs s_is_between, defBody s_is_between, defScope s_is_between, [], []⟩
def dd_is_sequence : He.DefD := ⟨("is_sequence", none), "is_sequence", "is_sequence", defArgs s_is_sequence, defBody s_is_sequence, defScope s_is_sequence, [], []⟩
def dd_is_row : He.DefD := ⟨("is_row", none), "is_row", "is_row", defArgs s_is_row, defBody s_is_row, defScope s_is_row, [], []⟩
def dd_Book___init__ : He.DefD := ⟨("Book", some "__init__"), "__init__", "Book.__init__", defArgs s_Book___init__, defBody s_Book___init__, defScope s_Book___init__, [], []⟩
def dd__law_take : He.DefD := ⟨("_law_take", none), "_law_take", "_law_take", defArgs s__law_take, defBody s__law_take, defScope s__law_take, [], []⟩
def dd__law_loose : He.DefD := ⟨("_law_loose", none), "_law_loose", "_law_loose", defArgs s__law_loose, defBody s__law_loose, defScope s__law_loose, [], []⟩
def dd__law_book : He.DefD := ⟨("_law_book", none), "_law_book", "_law_book", defArgs s__law_book, defBody s__law_book, defScope s__law_book, [], []⟩
def dd__law_box : He.DefD := ⟨("_law_box", none), "_law_box", "_law_box", defArgs s__law_box, defBody s__law_box, defScope s__law_box, [], []⟩
def dd__law_hall : He.DefD := ⟨("_law_hall", none), "_law_hall", "_law_hall", defArgs s__law_hall, defBody s__law_hall, defScope s__law_hall, [], []⟩
def dd__law_pick : He.DefD := ⟨("_law_pick", none), "_law_pick", "_law_pick", defArgs s__law_pick, defBody s__law_pick, defScope s__law_pick, [], []⟩
def dd__law_number : He.DefD := ⟨("_law_number", none), "_law_number", "_law_number", defArgs s__law_number, defBody s__law_number, defScope s__law_number, [], []⟩
def dd__law_rows : He.DefD := ⟨("_law_rows", none), "_law_rows", "_law_rows", defArgs s__law_rows, defBody s__law_rows, defScope s__law_rows, [], []⟩
def dd__law_visits : He.DefD := ⟨("_law_visits", none), "_law_visits", "_law_visits", defArgs s__law_visits, defBody s__law_visits, defScope s__law_visits, [], []⟩
def dd__law_case : He.DefD := ⟨("_law_case", none), "_law_case", "_law_case", defArgs s__law_case, defBody s__law_case, defScope s__law_case, [], []⟩
def dd__law_crowd_case : He.DefD := ⟨("_law_crowd_case", none), "_law_crowd_case", "_law_crowd_case", defArgs s__law_crowd_case, defBody s__law_crowd_case, defScope s__law_crowd_case, [], []⟩
def dd_is_tickets : He.DefD := ⟨("is_tickets", none), "is_tickets", "is_tickets", defArgs s_is_tickets, defBody s_is_tickets, defScope s_is_tickets, [], []⟩
def dd_is_visit : He.DefD := ⟨("is_visit", none), "is_visit", "is_visit", defArgs s_is_visit, defBody s_is_visit, defScope s_is_visit, [], []⟩
def dd_Doors___init__ : He.DefD := ⟨("Doors", some "__init__"), "__init__", "Doors.__init__", defArgs s_Doors___init__, defBody s_Doors___init__, defScope s_Doors___init__, [], []⟩
def dd__law_doors : He.DefD := ⟨("_law_doors", none), "_law_doors", "_law_doors", defArgs s__law_doors, defBody s__law_doors, defScope s__law_doors, [], []⟩
def dd__law_pool_come : He.DefD := ⟨("_law_pool_come", none), "_law_pool_come", "_law_pool_come", defArgs s__law_pool_come, defBody s__law_pool_come, defScope s__law_pool_come, [], []⟩
def dd__law_pool_move : He.DefD := ⟨("_law_pool_move", none), "_law_pool_move", "_law_pool_move", defArgs s__law_pool_move, defBody s__law_pool_move, defScope s__law_pool_move, [], []⟩
def dd__law_drawn_plan : He.DefD := ⟨("_law_drawn_plan", none), "_law_drawn_plan", "_law_drawn_plan", defArgs s__law_drawn_plan, defBody s__law_drawn_plan, defScope s__law_drawn_plan, [], []⟩
def dd__law_is_book : He.DefD := ⟨("_law_is_book", none), "_law_is_book", "_law_is_book", defArgs s__law_is_book, defBody s__law_is_book, defScope s__law_is_book, [], []⟩
def dd__law_written : He.DefD := ⟨("_law_written", none), "_law_written", "_law_written", defArgs s__law_written, defBody s__law_written, defScope s__law_written, [], []⟩
def dd_need_book : He.DefD := ⟨("need_book", none), "need_book", "need_book", defArgs s_need_book, defBody s_need_book, defScope s_need_book, [.int (-1)], []⟩
def dd_need_doors : He.DefD := ⟨("need_doors", none), "need_doors", "need_doors", defArgs s_need_doors, defBody s_need_doors, defScope s_need_doors, [.int (-1), .non], []⟩
def dd_is_word : He.DefD := ⟨("is_word", none), "is_word", "is_word", defArgs s_is_word, defBody s_is_word, defScope s_is_word, [], []⟩
def dd_is_asking : He.DefD := ⟨("is_asking", none), "is_asking", "is_asking", defArgs s_is_asking, defBody s_is_asking, defScope s_is_asking, [], []⟩
def dd_is_coming : He.DefD := ⟨("is_coming", none), "is_coming", "is_coming", defArgs s_is_coming, defBody s_is_coming, defScope s_is_coming, [], []⟩
def dd_need_pool_deeds : He.DefD := ⟨("need_pool_deeds", none), "need_pool_deeds", "need_pool_deeds", defArgs s_need_pool_deeds, defBody s_need_pool_deeds, defScope s_need_pool_deeds, [], []⟩
def dd_paid : He.DefD := ⟨("paid", none), "paid", "paid", defArgs s_paid, defBody s_paid, defScope s_paid, [], []⟩
def dd_covers : He.DefD := ⟨("covers", none), "covers", "covers", defArgs s_covers, defBody s_covers, defScope s_covers, [], []⟩
def dd_pool_answer : He.DefD := ⟨("pool_answer", none), "pool_answer", "pool_answer", defArgs s_pool_answer, defBody s_pool_answer, defScope s_pool_answer, [], []⟩
def dd_poured : He.DefD := ⟨("poured", none), "poured", "poured", defArgs s_poured, defBody s_poured, defScope s_poured, [], []⟩
def dd_pooled : He.DefD := ⟨("pooled", none), "pooled", "pooled", defArgs s_pooled, defBody s_pooled, defScope s_pooled, [], []⟩
def dd__law_is_written : He.DefD := ⟨("_law_is_written", none), "_law_is_written", "_law_is_written", defArgs s__law_is_written, defBody s__law_is_written, defScope s__law_is_written, [], []⟩
def dd__law_plan_end : He.DefD := ⟨("_law_plan_end", none), "_law_plan_end", "_law_plan_end", defArgs s__law_plan_end, defBody s__law_plan_end, defScope s__law_plan_end, [], []⟩
def dd__law_times_over : He.DefD := ⟨("_law_times_over", none), "_law_times_over", "_law_times_over", defArgs s__law_times_over, defBody s__law_times_over, defScope s__law_times_over, [], []⟩
def dd__law_mixed : He.DefD := ⟨("_law_mixed", none), "_law_mixed", "_law_mixed", defArgs s__law_mixed, defBody s__law_mixed, defScope s__law_mixed, [], []⟩
def dd__law_turned_plan : He.DefD := ⟨("_law_turned_plan", none), "_law_turned_plan", "_law_turned_plan", defArgs s__law_turned_plan, defBody s__law_turned_plan, defScope s__law_turned_plan, [], []⟩
def dd_is_times : He.DefD := ⟨("is_times", none), "is_times", "is_times", defArgs s_is_times, defBody s_is_times, defScope s_is_times, [], []⟩
def dd_is_line : He.DefD := ⟨("is_line", none), "is_line", "is_line", defArgs s_is_line, defBody s_is_line, defScope s_is_line, [], []⟩
def dd_need_plan : He.DefD := ⟨("need_plan", none), "need_plan", "need_plan", defArgs s_need_plan, defBody s_need_plan, defScope s_need_plan, [], []⟩
def dd_fare_before : He.DefD := ⟨("fare_before", none), "fare_before", "fare_before", defArgs s_fare_before, defBody s_fare_before, defScope s_fare_before, [], []⟩
def dd_fare_row : He.DefD := ⟨("fare_row", none), "fare_row", "fare_row", defArgs s_fare_row, defBody s_fare_row, defScope s_fare_row, [], []⟩
def dd_nets_of : He.DefD := ⟨("nets_of", none), "nets_of", "nets_of", defArgs s_nets_of, defBody s_nets_of, defScope s_nets_of, [], []⟩
def dd_net_row : He.DefD := ⟨("net_row", none), "net_row", "net_row", defArgs s_net_row, defBody s_net_row, defScope s_net_row, [], []⟩
def dd_fare_often : He.DefD := ⟨("fare_often", none), "fare_often", "fare_often", defArgs s_fare_often, defBody s_fare_often, defScope s_fare_often, [], []⟩
def dd_plan_end : He.DefD := ⟨("plan_end", none), "plan_end", "plan_end", defArgs s_plan_end, defBody s_plan_end, defScope s_plan_end, [], []⟩
def dd_carried : He.DefD := ⟨("carried", none), "carried", "carried", defArgs s_carried, defBody s_carried, defScope s_carried, [], []⟩
def dd_law : He.DefD := ⟨("law", none), "law", "law", defArgs s_law, defBody s_law, defScope s_law, [], []⟩
def fn0 : List He.DefD := [dd__law_is_int, dd__law_same, dd__law_are_doors, dd_is_integer, dd_is_below, dd_is_between, dd_is_sequence, dd_is_row, dd_Book___init__, dd__law_take, dd__law_loose, dd__law_book, dd__law_box, dd__law_hall, dd__law_pick, dd__law_number, dd__law_rows, dd__law_visits, dd__law_case, dd__law_crowd_case, dd_is_tickets, dd_is_visit, dd_Doors___init__, dd__law_doors, dd__law_pool_come, dd__law_pool_move, dd__law_drawn_plan, dd__law_is_book, dd__law_written, dd_need_book]
def fn1 : List He.DefD := [dd_need_doors, dd_is_word, dd_is_asking, dd_is_coming, dd_need_pool_deeds, dd_paid, dd_covers, dd_pool_answer, dd_poured, dd_pooled, dd__law_is_written, dd__law_plan_end, dd__law_times_over, dd__law_mixed, dd__law_turned_plan, dd_is_times, dd_is_line, dd_need_plan, dd_fare_before, dd_fare_row, dd_nets_of, dd_net_row, dd_fare_often, dd_plan_end, dd_carried, dd_law]
def fn : List He.DefD := fn0 ++ fn1
def fa0 : List He.Fa := [.free "abs", .free "all", .free "bool", .free "enumerate", .free "int", .free "isinstance", .free "len", .free "list", .free "max", .free "min", .free "range", .free "reversed", .free "str", .free "tuple", .free "zip", .int "MOST_COLOURS" 60, .int "MOST_KINDS" 6, .int "MOST_LINES" 200, .int "MOST_PLANNED" 1000000000000000000000000000000, .int "MOST_POOL_DEEDS" 400, .int "MOST_STATES" 40, .int "MOST_TICKETS" 1000000000000000000, .glo "Book", .cls "Book", .mkr "Book", .glo "Doors", .cls "Doors", .mkr "Doors", .noat "Book" "kinds", .noat "Book" "rows"]
def fa1 : List He.Fa := [.noat "Doors" "purse", .noat "Doors" "visits", .glo "_law_is_int", .glo "_law_same", .glo "_law_are_doors", .glo "is_integer", .glo "is_below", .glo "is_between", .glo "is_sequence", .glo "is_row", .glo "_law_take", .glo "_law_loose", .glo "_law_book", .glo "_law_box", .glo "_law_hall", .glo "_law_pick", .glo "_law_number", .glo "_law_rows", .glo "_law_visits", .glo "_law_case", .glo "_law_crowd_case", .glo "is_tickets", .glo "is_visit", .glo "_law_doors", .glo "_law_pool_come", .glo "_law_pool_move", .glo "_law_drawn_plan", .glo "_law_is_book", .glo "_law_written", .glo "need_book"]
def fa2 : List He.Fa := [.glo "need_doors", .glo "is_word", .glo "is_asking", .glo "is_coming", .glo "need_pool_deeds", .glo "paid", .glo "covers", .glo "pool_answer", .glo "poured", .glo "pooled", .glo "_law_is_written", .glo "_law_plan_end", .glo "_law_times_over", .glo "_law_mixed", .glo "_law_turned_plan", .glo "is_times", .glo "is_line", .glo "need_plan", .glo "fare_before", .glo "fare_row", .glo "nets_of", .glo "net_row", .glo "fare_often", .glo "plan_end", .glo "carried", .glo "law"]
def fa : List He.Fa := fa0 ++ fa1 ++ fa2
def loose0 : List PySem.Str := ["__name__", "TicketError", "InvalidKinds", "InvalidRows", "InvalidBook", "InvalidPurse", "InvalidVisits", "InvalidDoors", "InvalidDeed", "InvalidPlan", "is_integer", "is_below", "is_between", "is_sequence", "is_row", "is_word", "MOST_KINDS", "MOST_STATES", "Book", "need_book", "MOST_COLOURS", "MOST_TICKETS", "Doors", "is_tickets", "is_visit", "need_doors", "covers", "paid", "nets_of", "net_row"]
def loose1 : List PySem.Str := ["fare_before", "fare_row", "fare_often", "is_times", "MOST_POOL_DEEDS", "MOST_LINES", "MOST_PLANNED", "is_coming", "is_asking", "need_pool_deeds", "pool_answer", "pooled", "poured", "is_line", "need_plan", "plan_end", "carried", "_law_box", "_law_take", "_law_pick", "_law_mixed", "_law_loose", "_law_is_int", "_law_same", "_law_rows", "_law_number", "_law_visits", "_law_hall", "_law_case", "_law_book"]
def loose2 : List PySem.Str := ["_law_doors", "_law_is_book", "_law_are_doors", "_law_pool_move", "_law_pool_come", "_law_plan_end", "_law_drawn_plan", "_law_crowd_case", "_law_times_over", "_law_turned_plan", "_law_written", "_law_is_written"]
def loose : List PySem.Str := loose0 ++ loose1 ++ loose2
def clX (K : PySem.W.Frag) (C : Addr) : Bool := He.eqO (PySem.W.findIn K (.ref C) "__class__") (some (some (.builtin "object.__class__"))) && (He.eqO (PySem.W.specialIn K (.builtin "object.__class__") "__get__") (some (some (.builtin "getset_descriptor.__get__"))) &&
  (decide (PySem.W.takesIn K (.builtin "object.__class__") = some true) && decide (PySem.W.mroIn K C (.type "object") = some true)))
def ex (K : PySem.W.Frag) : Bool := (clX K (He.ga K "Book") && (clX K (He.ga K "Doors") && true))
def obX (g : Addr → Option Obj) : He.AlD × Bool := (He.obsDG 6 fa fn g, ex (He.frG g (He.asD g 6)))
def hk : PySem.W.Hook where
  α := He.AlD × Bool
  obs := fun s => obX s.heap.get?
  val := fun _ => (He.valD fn, true)
  says := fun _ h => ∃ K : PySem.W.Frag, K.In h ∧ He.SaysD fa fn K ∧ ex K = true
  of := fun _ s e => ⟨He.frG s.heap.get? (He.asD s.heap.get? 6), He.frG_in, congrArg (fun z : He.AlD × Bool => z.1) e, congrArg (fun z : He.AlD × Bool => z.2) e⟩
  keeps := fun _ _ _ ⟨K, hK, c⟩ k => ⟨K, PySem.W.Frag.In.keeps hK k, c⟩
def ob (s : PySem.W.SharedT) : He.AlD × Bool := obX (HandSHeadRun.getT s)
theorem ob_eq (s : PySem.W.SharedT) : ob s = hk.obs s.abs := by
  have e : HandSHeadRun.getT s = s.abs.heap.get? := funext (HandSHeadRun.getT_eq s)
  show obX _ = obX _
  rw [e]
theorem run (w : World) : HandSHeadRun.RunEq R (PySem.W.view R.prog [79]) hk ob 6000 loose w := by
  intro os
  kernel_rfl
theorem clX_ok {K : PySem.W.Frag} {C : Addr} (h : clX K C = true) (c : Cls K C) : ClsI K C := by
  unfold clX at h
  rw [Bool.and_eq_true, Bool.and_eq_true, Bool.and_eq_true] at h
  exact ⟨c, He.eqO_ok h.1, He.eqO_ok h.2.1, of_decide_eq_true h.2.2.1, of_decide_eq_true h.2.2.2⟩
theorem wd {K : PySem.W.Frag} {h : Heap} {mg : Str → Option Value} (X : K.In h) (G : h.Ns mainGlobals mg) (c : He.SaysD fa fn K) (e : ex K = true) : Wdk66 K mg := by
  unfold ex at e
  simp only [Bool.and_eq_true] at e
  have fac : ∀ (i : Nat) (f : He.Fa), fa[i]? = some f → f.ok K = true := fun i f h => c.fact i (f := f) h
  constructor
  case z_abs => exact He.free_ok X G (fac 0 _ rfl)
  case z_all => exact He.free_ok X G (fac 1 _ rfl)
  case z_bool => exact He.free_ok X G (fac 2 _ rfl)
  case z_enumerate => exact He.free_ok X G (fac 3 _ rfl)
  case z_int => exact He.free_ok X G (fac 4 _ rfl)
  case z_isinstance => exact He.free_ok X G (fac 5 _ rfl)
  case z_len => exact He.free_ok X G (fac 6 _ rfl)
  case z_list => exact He.free_ok X G (fac 7 _ rfl)
  case z_max => exact He.free_ok X G (fac 8 _ rfl)
  case z_min => exact He.free_ok X G (fac 9 _ rfl)
  case z_range => exact He.free_ok X G (fac 10 _ rfl)
  case z_reversed => exact He.free_ok X G (fac 11 _ rfl)
  case z_str => exact He.free_ok X G (fac 12 _ rfl)
  case z_tuple => exact He.free_ok X G (fac 13 _ rfl)
  case z_zip => exact He.free_ok X G (fac 14 _ rfl)
  case i_MOST_COLOURS => exact He.int_ok X G (fac 15 _ rfl)
  case i_MOST_KINDS => exact He.int_ok X G (fac 16 _ rfl)
  case i_MOST_LINES => exact He.int_ok X G (fac 17 _ rfl)
  case i_MOST_PLANNED => exact He.int_ok X G (fac 18 _ rfl)
  case i_MOST_POOL_DEEDS => exact He.int_ok X G (fac 19 _ rfl)
  case i_MOST_STATES => exact He.int_ok X G (fac 20 _ rfl)
  case i_MOST_TICKETS => exact He.int_ok X G (fac 21 _ rfl)
  case c_Book => exact He.glo_ok X G (fac 22 _ rfl)
  case c_Doors => exact He.glo_ok X G (fac 25 _ rfl)
  case k_Book => exact clX_ok e.1 (He.cls_ok (fac 23 _ rfl))
  case k_Doors => exact clX_ok e.2.1 (He.cls_ok (fac 26 _ rfl))
  case f_kinds =>
    intro c hc
    rw [List.mem_singleton.mp hc]
    exact ⟨He.cls_ok (fac 23 _ rfl), He.noat_ok (fac 28 _ rfl)⟩
  case f_rows =>
    intro c hc
    rw [List.mem_singleton.mp hc]
    exact ⟨He.cls_ok (fac 23 _ rfl), He.noat_ok (fac 29 _ rfl)⟩
  case f_purse =>
    intro c hc
    rw [List.mem_singleton.mp hc]
    exact ⟨He.cls_ok (fac 26 _ rfl), He.noat_ok (fac 30 _ rfl)⟩
  case f_visits =>
    intro c hc
    rw [List.mem_singleton.mp hc]
    exact ⟨He.cls_ok (fac 26 _ rfl), He.noat_ok (fac 31 _ rfl)⟩
  case g__law_is_int => exact He.glo_ok X G (fac 32 _ rfl)
  case d__law_is_int => exact c.def_ 0 (d := dd__law_is_int) rfl
  case g__law_same => exact He.glo_ok X G (fac 33 _ rfl)
  case d__law_same => exact c.def_ 1 (d := dd__law_same) rfl
  case g__law_are_doors => exact He.glo_ok X G (fac 34 _ rfl)
  case d__law_are_doors => exact c.def_ 2 (d := dd__law_are_doors) rfl
  case g_is_integer => exact He.glo_ok X G (fac 35 _ rfl)
  case d_is_integer => exact c.def_ 3 (d := dd_is_integer) rfl
  case g_is_below => exact He.glo_ok X G (fac 36 _ rfl)
  case d_is_below => exact c.def_ 4 (d := dd_is_below) rfl
  case g_is_between => exact He.glo_ok X G (fac 37 _ rfl)
  case d_is_between => exact c.def_ 5 (d := dd_is_between) rfl
  case g_is_sequence => exact He.glo_ok X G (fac 38 _ rfl)
  case d_is_sequence => exact c.def_ 6 (d := dd_is_sequence) rfl
  case g_is_row => exact He.glo_ok X G (fac 39 _ rfl)
  case d_is_row => exact c.def_ 7 (d := dd_is_row) rfl
  case m_Book___init__ => exact He.mkr_ok (fac 24 _ rfl)
  case d_Book___init__ => exact c.def_ 8 (d := dd_Book___init__) rfl
  case g__law_take => exact He.glo_ok X G (fac 40 _ rfl)
  case d__law_take => exact c.def_ 9 (d := dd__law_take) rfl
  case g__law_loose => exact He.glo_ok X G (fac 41 _ rfl)
  case d__law_loose => exact c.def_ 10 (d := dd__law_loose) rfl
  case g__law_book => exact He.glo_ok X G (fac 42 _ rfl)
  case d__law_book => exact c.def_ 11 (d := dd__law_book) rfl
  case g__law_box => exact He.glo_ok X G (fac 43 _ rfl)
  case d__law_box => exact c.def_ 12 (d := dd__law_box) rfl
  case g__law_hall => exact He.glo_ok X G (fac 44 _ rfl)
  case d__law_hall => exact c.def_ 13 (d := dd__law_hall) rfl
  case g__law_pick => exact He.glo_ok X G (fac 45 _ rfl)
  case d__law_pick => exact c.def_ 14 (d := dd__law_pick) rfl
  case g__law_number => exact He.glo_ok X G (fac 46 _ rfl)
  case d__law_number => exact c.def_ 15 (d := dd__law_number) rfl
  case g__law_rows => exact He.glo_ok X G (fac 47 _ rfl)
  case d__law_rows => exact c.def_ 16 (d := dd__law_rows) rfl
  case g__law_visits => exact He.glo_ok X G (fac 48 _ rfl)
  case d__law_visits => exact c.def_ 17 (d := dd__law_visits) rfl
  case g__law_case => exact He.glo_ok X G (fac 49 _ rfl)
  case d__law_case => exact c.def_ 18 (d := dd__law_case) rfl
  case g__law_crowd_case => exact He.glo_ok X G (fac 50 _ rfl)
  case d__law_crowd_case => exact c.def_ 19 (d := dd__law_crowd_case) rfl
  case g_is_tickets => exact He.glo_ok X G (fac 51 _ rfl)
  case d_is_tickets => exact c.def_ 20 (d := dd_is_tickets) rfl
  case g_is_visit => exact He.glo_ok X G (fac 52 _ rfl)
  case d_is_visit => exact c.def_ 21 (d := dd_is_visit) rfl
  case m_Doors___init__ => exact He.mkr_ok (fac 27 _ rfl)
  case d_Doors___init__ => exact c.def_ 22 (d := dd_Doors___init__) rfl
  case g__law_doors => exact He.glo_ok X G (fac 53 _ rfl)
  case d__law_doors => exact c.def_ 23 (d := dd__law_doors) rfl
  case g__law_pool_come => exact He.glo_ok X G (fac 54 _ rfl)
  case d__law_pool_come => exact c.def_ 24 (d := dd__law_pool_come) rfl
  case g__law_pool_move => exact He.glo_ok X G (fac 55 _ rfl)
  case d__law_pool_move => exact c.def_ 25 (d := dd__law_pool_move) rfl
  case g__law_drawn_plan => exact He.glo_ok X G (fac 56 _ rfl)
  case d__law_drawn_plan => exact c.def_ 26 (d := dd__law_drawn_plan) rfl
  case g__law_is_book => exact He.glo_ok X G (fac 57 _ rfl)
  case d__law_is_book => exact c.def_ 27 (d := dd__law_is_book) rfl
  case g__law_written => exact He.glo_ok X G (fac 58 _ rfl)
  case d__law_written => exact c.def_ 28 (d := dd__law_written) rfl
  case g_need_book => exact He.glo_ok X G (fac 59 _ rfl)
  case d_need_book => exact c.def_ 29 (d := dd_need_book) rfl
  case g_need_doors => exact He.glo_ok X G (fac 60 _ rfl)
  case d_need_doors => exact c.def_ 30 (d := dd_need_doors) rfl
  case g_is_word => exact He.glo_ok X G (fac 61 _ rfl)
  case d_is_word => exact c.def_ 31 (d := dd_is_word) rfl
  case g_is_asking => exact He.glo_ok X G (fac 62 _ rfl)
  case d_is_asking => exact c.def_ 32 (d := dd_is_asking) rfl
  case g_is_coming => exact He.glo_ok X G (fac 63 _ rfl)
  case d_is_coming => exact c.def_ 33 (d := dd_is_coming) rfl
  case g_need_pool_deeds => exact He.glo_ok X G (fac 64 _ rfl)
  case d_need_pool_deeds => exact c.def_ 34 (d := dd_need_pool_deeds) rfl
  case g_paid => exact He.glo_ok X G (fac 65 _ rfl)
  case d_paid => exact c.def_ 35 (d := dd_paid) rfl
  case g_covers => exact He.glo_ok X G (fac 66 _ rfl)
  case d_covers => exact c.def_ 36 (d := dd_covers) rfl
  case g_pool_answer => exact He.glo_ok X G (fac 67 _ rfl)
  case d_pool_answer => exact c.def_ 37 (d := dd_pool_answer) rfl
  case g_poured => exact He.glo_ok X G (fac 68 _ rfl)
  case d_poured => exact c.def_ 38 (d := dd_poured) rfl
  case g_pooled => exact He.glo_ok X G (fac 69 _ rfl)
  case d_pooled => exact c.def_ 39 (d := dd_pooled) rfl
  case g__law_is_written => exact He.glo_ok X G (fac 70 _ rfl)
  case d__law_is_written => exact c.def_ 40 (d := dd__law_is_written) rfl
  case g__law_plan_end => exact He.glo_ok X G (fac 71 _ rfl)
  case d__law_plan_end => exact c.def_ 41 (d := dd__law_plan_end) rfl
  case g__law_times_over => exact He.glo_ok X G (fac 72 _ rfl)
  case d__law_times_over => exact c.def_ 42 (d := dd__law_times_over) rfl
  case g__law_mixed => exact He.glo_ok X G (fac 73 _ rfl)
  case d__law_mixed => exact c.def_ 43 (d := dd__law_mixed) rfl
  case g__law_turned_plan => exact He.glo_ok X G (fac 74 _ rfl)
  case d__law_turned_plan => exact c.def_ 44 (d := dd__law_turned_plan) rfl
  case g_is_times => exact He.glo_ok X G (fac 75 _ rfl)
  case d_is_times => exact c.def_ 45 (d := dd_is_times) rfl
  case g_is_line => exact He.glo_ok X G (fac 76 _ rfl)
  case d_is_line => exact c.def_ 46 (d := dd_is_line) rfl
  case g_need_plan => exact He.glo_ok X G (fac 77 _ rfl)
  case d_need_plan => exact c.def_ 47 (d := dd_need_plan) rfl
  case g_fare_before => exact He.glo_ok X G (fac 78 _ rfl)
  case d_fare_before => exact c.def_ 48 (d := dd_fare_before) rfl
  case g_fare_row => exact He.glo_ok X G (fac 79 _ rfl)
  case d_fare_row => exact c.def_ 49 (d := dd_fare_row) rfl
  case g_nets_of => exact He.glo_ok X G (fac 80 _ rfl)
  case d_nets_of => exact c.def_ 50 (d := dd_nets_of) rfl
  case g_net_row => exact He.glo_ok X G (fac 81 _ rfl)
  case d_net_row => exact c.def_ 51 (d := dd_net_row) rfl
  case g_fare_often => exact He.glo_ok X G (fac 82 _ rfl)
  case d_fare_often => exact c.def_ 52 (d := dd_fare_often) rfl
  case g_plan_end => exact He.glo_ok X G (fac 83 _ rfl)
  case d_plan_end => exact c.def_ 53 (d := dd_plan_end) rfl
  case g_carried => exact He.glo_ok X G (fac 84 _ rfl)
  case d_carried => exact c.def_ 54 (d := dd_carried) rfl
  case g_law => exact He.glo_ok X G (fac 85 _ rfl)
  case d_law => exact c.def_ 55 (d := dd_law) rfl
end Hdk66
set_option maxHeartbeats 0 in
theorem PySem.Challenge.cw_takentickets_k66_whole_plans_carried_holds : PySem.Challenge.rw_takentickets_k66_whole_plans_carried.Holds := by
  open PySem PySem.W PySem.Calls PyProof.Rows in
  w_on; o_law
  refine HandSHeadRun.head_any (r := OpenLaw.row PySem.Challenge.rw_takentickets_k66_whole_plans_carried) (q := view (OpenLaw.row PySem.Challenge.rw_takentickets_k66_whole_plans_carried).prog [79]) (H := Hdk66.hk) (ob := Hdk66.ob) (M := 6000) (loose := Hdk66.loose) (d := HandSHeadRun.topDef (OpenLaw.row PySem.Challenge.rw_takentickets_k66_whole_plans_carried).prog 79) (kwd := []) Hdk66.ob_eq
    (by kernel_rfl) (fun s => by kernel_rfl) Hdk66.run (by kernel_rfl) (by kernel_rfl) (by kernel_rfl) (by rfl) (by first | assumption | decide +kernel) (by decide +kernel) ⟨rfl, rfl, rfl, rfl, rfl, by decide +kernel⟩ ?hw ?hc
  case hw => w_witness2
  case hc =>
    refine L2.walk_ofE (l := PySem.Challenge.rw_takentickets_k66_whole_plans_carried) (n := 63) (k := 10) (x := "script") (CX := L2.CX0) rfl (by decide) (by kernel_rfl) ⟨rfl, by decide, by decide⟩ ?F (fun _ _ _ _ z => z)
    intro w mg fa h Y G hmg0
    obtain ⟨K, KX, c, e⟩ := Y
    have hmg : mg ("law" : PySem.Str) = some (.ref fa) := by
      have e : (HandSHeadRun.topDef (OpenLaw.row PySem.Challenge.rw_takentickets_k66_whole_plans_carried).prog 79).name = ("law" : PySem.Str) := by kernel_rfl
      rw [← e]
      exact hmg0
    have W := Hdk66.wd KX G c e
    obtain ⟨fd, Fd⟩ := W.d_law
    have e2 := hmg.symm.trans W.g_law
    cases e2
    exact ⟨K, fd, Tk.spF K (Tk.clk66 K) 1 Tk.Φ_law, KX, fun s u => (L2.FunD.bindsA (ps := ["script"]) Fd fun _ _ _ _ _ _ us hl => match us, hl with | [_], _ => rfl) s [u] rfl, fun H a ns _ _ hS => Tk.law_spF (fun ns => Tk.law_ev) hS, fun base _ _ => Tk.ok_all W Fd⟩
