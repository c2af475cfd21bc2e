import PyProof.Rows.All
import Wide.All
import OpenK.AllK
import Wide.FinOn
import HandS.ForMost
import HandS.Zip0
import HandS.Zip
import HandS.Walk
import KE.KDictZip
import KE.GoesMore
import HandS.TupAny
import HandS.TupMul
import HandS.Style
import HandS.Wide
import HandS.Flow
import HandS.IsInst
import HandS.Text
import HandS.Deep
import HandS.Call
import HandS.Codes
import KE.RegKIsAll
import PySem.Challenge.RW_thoughsomelie_k78_frames_are_read_up_to
set_option Elab.async false
set_option linter.all false
set_option maxRecDepth 100000
set_option maxHeartbeats 4000000
/-! own rules: `is` with a bool, enumerate over a tuple, list(zip(tuple, tuple)) -/
namespace Lw
open PySem PySem.Spec PyProof.Rows L2

/-! ### x is True, x is False, for any x -/
def rIsBool : R2 := fun x y H Q => ∃ b : Bool, y = .bl b ∧ Q (.bl (decide (x = .bl b))) H
theorem op_isBool {X : Cx} : OpR X (compareOp .Is) rIsBool := by
  intro pins s σ H x y v u Q I rx ry h
  obtain ⟨b, rfl, q⟩ := h
  cases (show u = Value.bool b from ry)
  by_cases e : x = .bl b
  · subst e
    cases (show v = Value.bool b from rx)
    exact wpAny_is_self rfl ⟨.bl true, H, I, rfl, by simpa using q⟩
  · have ne : v ≠ Value.bool b ∧ plainIs v (Value.bool b) = true := by
      cases x with
      | non => cases (show v = Value.none from rx); exact ⟨fun z => (nomatch z), rfl⟩
      | bl c => cases (show v = Value.bool c from rx); exact ⟨fun z => by cases z; exact e rfl, rfl⟩
      | int i => obtain ⟨t, q⟩ := (show ∃ t, v = Value.int i t from rx); cases q; exact ⟨fun z => (nomatch z), rfl⟩
      | str i => obtain ⟨t, q⟩ := (show ∃ t, v = Value.str i t from rx); cases q; exact ⟨fun z => (nomatch z), rfl⟩
      | byt i => obtain ⟨t, q⟩ := (show ∃ t, v = Value.bytes i t from rx); cases q; exact ⟨fun z => (nomatch z), rfl⟩
      | flt i => obtain ⟨t, q⟩ := (show ∃ t, v = Value.float i t from rx); cases q; exact ⟨fun z => (nomatch z), rfl⟩
      | ref a => cases (show v = Value.ref a from rx); exact ⟨fun z => (nomatch z), rfl⟩
      | ty n => cases (show v = Value.type n from rx); exact ⟨fun z => (nomatch z), rfl⟩
    exact wpAny_is_other ne.2 ne.1 ⟨.bl false, H, I, rfl, by simpa [e] using q⟩

/-! ### enumerate(tuple) -/
theorem meets_enumerate_newT (l : Addr) (items : Array Value) (n : Nat) (dct : Option Addr) (sl : Array (Option Value)) :
    Meets (Builtin.«enumerate.__new__» ⟨[.type "enumerate", .ref l], []⟩) (fun _ R s => s.heap.get? l = some { cls := .type "tuple", dict := dct, data := .seq items n, slots := sl } ∧
      R (.ok (.ret (.ref (s.heap.push { cls := .type "tuple_iterator", data := .fields #[.ref l, .int 0 0] }).objs.size)))
        { s with heap := (s.heap.push { cls := .type "tuple_iterator", data := .fields #[.ref l, .int 0 0] }).push { cls := .type "enumerate", data := .fields #[.none, .bool false, .ref s.heap.objs.size, rawInt 0, .none, .none] } }) :=
  .of_wp fun prog w A R s h => by
    obtain ⟨hp, g, d, tk, os⟩ := s; obtain ⟨hl, h⟩ := h
    have hsub := sub_enumerate
    have hL : Heap.IsTuple (Shared.heap ⟨hp, g, d, tk, os⟩) l items := ⟨_, hl, rfl, n, rfl⟩
    wp_walk using wpAny_loadPart' hl
    refine wpAny_stack_any fun st => wpAny_pure ?_
    split
    · rename_i c _ _ _ _ _
      cases (c == Value.type "enumerate")
      · wp_walk using wpAny_loadPart' hl, wpAny_pyIter_tuple hL
        exact ⟨_, rfl, h⟩
      · wp_walk using wpAny_loadPart' hl, wpAny_pyIter_tuple hL
        exact ⟨_, rfl, h⟩
    · wp_walk using wpAny_loadPart' hl, wpAny_pyIter_tuple hL
      exact ⟨_, rfl, h⟩
section
variable {prog : Program} {w : World} {A : Around} {E : Value → Shared → Prop} {s : Shared}
theorem call_enumerate_tuple {l : Addr} {items : Array Value} {Q : Value → Shared → Prop} (hL : s.heap.IsTuple l items)
    (h : ∀ h', IsEnum h' (s.heap.objs.size + 1) s.heap.objs.size 0 .none → h'.IsTupleIter s.heap.objs.size l 0 → h'.objs.size = s.heap.objs.size + 2 →
      (∀ b o, s.heap.get? b = some o → h'.get? b = some o) → Q (.ref (s.heap.objs.size + 1)) { s with heap := h' }) :
    wpAny (model prog w) A (call (.type "enumerate") [.ref l]) Q E s := by
  obtain ⟨⟨c, dct, dt, sl⟩, hl, hc, n, hd⟩ := hL
  replace hc : c = .type "tuple" := hc
  replace hd : dt = .seq items n := hd
  subst hc hd
  refine callType_new F.called_enumerate (by decide) (F.typeCall_enumerate_1 _) (F.newCall_enumerate_1 _) (fun obj => F.args_object_init_2 obj _) F.entry_enumerate_new
    (meets_enumerate_newT l items n dct sl) ⟨hl, ?_⟩
  have hz : (s.heap.push { cls := .type "tuple_iterator", data := .fields #[.ref l, .int 0 0] }).objs.size = s.heap.objs.size + 1 := Heap.size_push ..
  show _ ∧ _
  rw [hz]
  have he : IsEnum ((s.heap.push { cls := .type "tuple_iterator", data := .fields #[.ref l, .int 0 0] }).push
      { cls := .type "enumerate", data := .fields #[.none, .bool false, .ref s.heap.objs.size, rawInt 0, .none, .none] }) (s.heap.objs.size + 1) s.heap.objs.size 0 .none := by
    have := Heap.get?_push_size (s.heap.push { cls := .type "tuple_iterator", data := .fields #[.ref l, .int 0 0] })
      (o := { cls := .type "enumerate", data := .fields #[.none, .bool false, .ref s.heap.objs.size, rawInt 0, .none, .none] }) rfl
    rw [hz] at this; exact this
  refine ⟨⟨_, he, rfl⟩, h _ he ⟨_, Heap.get?_push_of_some _ (Heap.get?_push_size _ rfl), rfl, rfl⟩ (by rw [Heap.size_push, hz]) fun b o x => Heap.get?_push_of_some _ (Heap.get?_push_of_some _ x)⟩
end
def IteT (K : PySem.W.Frag) (a : Addr) : It :=
  ⟨fun i H => ∃ (xs : List V) (x : V), SqT K H a xs ∧ xs[i]? = some x, fun i H v H' => ∃ T x, v = .ref T ∧ H T = none ∧ H' = upd H T (.tup [.int (i : Nat), x]) ∧ ∀ xs, SqT K H a xs → xs[i]? = some x, fun i H => ∃ xs : List V, SqT K H a xs ∧ xs.length ≤ i⟩
theorem turn_enumT {P : Program} {w : World} {K : PySem.W.Frag} {elts : List Expr} {kk : Nat} {tpos : Pos} (a e it : Addr) (hae : a ≠ e) (hait : a ≠ it) :
    Turn P w K (.Tuple elts kk tpos) (IteT K a) [e, it] e (fun i h => (∃ old, IsEnum h e it ((i : Nat) : Int) old) ∧ h.IsTupleIter it a i ∧ e ≠ it) where
  mem := by simp
  obj := fun i h st b hb => by
    obtain ⟨⟨old, he⟩, ⟨o, ho, hc, hd⟩, _⟩ := st
    have e' : b = e ∨ b = it := by simpa using hb
    rcases e' with z | z
    · rw [z]; exact ⟨_, he, fun v q => nomatch q⟩
    · rw [z]; exact ⟨o, ho, fun v q => by rw [hd] at q; cases q⟩
  keep := fun i h h' st k => let ⟨⟨old, he⟩, hi, hne⟩ := st; ⟨⟨old, k e (by simp) _ he⟩, hi.at fun o q => k it (by simp) o q, hne⟩
  item := by
    intro X hP hw hK hc i pins s σ H E I hf st hg
    subst hP hw hK
    obtain ⟨⟨old, he⟩, hit, hne⟩ := st
    obtain ⟨xs, x, hq, hx⟩ := hg
    obtain ⟨its, rv, p, hz⟩ := I.tuple hq
    obtain ⟨u, hu, ru⟩ := rv.get hx
    have hil' : i < its.length := (List.getElem?_eq_some_iff.mp hu).1
    have hel : e < s.heap.objs.size := Heap.lt_size he
    have hil : it < s.heap.objs.size := by obtain ⟨_, q, _⟩ := hit; exact Heap.lt_size q
    refine wpAny_pyNext_enum_itemD (Draws.tuple (A := X.A.in1) (I.ok.hd hc) it a hait its.toArray) he ⟨hit, p⟩ (by simpa using hil') hne (by simp [hne, Ne.symm hae]) fun y h' tk hy ho hit' hT hsz hk => ?_
    obtain ⟨hit', _⟩ := hit'
    have ey : y = u := by
      have q : its.toArray[i]? = some y := hy
      rw [show its.toArray[i]? = some u by simpa using hu] at q
      exact (Option.some.inj q).symm
    subst ey
    refine ⟨_, rfl, wpAny_letOwnedTupleGo_enum (s := { s with heap := h', toks := tk + 1 }) ho fun h'' he' sb => ?_⟩
    have hT2 : h''.get? s.heap.objs.size = some { cls := .type "tuple", data := .seq #[.int i tk, y] } := (sb.2 _ (Nat.ne_of_gt hel)).trans hT
    have new : ObjOk X.prog X.w (upd H s.heap.objs.size (.tup [.int (i : Nat), x])) h'' s.heap.objs.size (.tup [.int (i : Nat), x]) :=
      ⟨by show 2 ≤ sizeLine; decide, [.int i tk, y], .cons ⟨_, rfl⟩ (.cons ru .nil), ⟨_, hT2, rfl, _, rfl⟩⟩
    have I1 : Inv X pins σ (upd H s.heap.objs.size (.tup [.int (i : Nat), x])) { s with heap := h'', toks := tk + 1 } :=
      I.turnedNew (ch := [e, it]) (fun b ob hb q => (sb.2 b (fun z => hb (by simp [z]))).trans (hk b ob (fun z => hb (by simp [z])) (fun z => hb (by simp [z])) q)) hf (Nat.le_refl _) new
    refine ⟨.ref s.heap.objs.size, _, I1, rfl, ⟨_, x, rfl, I.hok.fresh (Nat.le_refl _), rfl, fun ys hy => by rw [I.tuple_inj hy hq]; exact hx⟩, ⟨⟨y, ?_⟩, hit'.at fun o q => (sb.2 it (Ne.symm hne)).trans q, hne⟩, fun b hb => ?_⟩
    · have e1 : ((i + 1 : Nat) : Int) = (i : Int) + 1 := by omega
      rw [e1]; exact he'
    · have hb' : b < s.heap.objs.size := by
        have e' : b = e ∨ b = it := by simpa using hb
        rcases e' with z | z
        · rw [z]; exact hel
        · rw [z]; exact hil
      rw [upd_ne (Nat.ne_of_lt hb')]
      exact (hf b hb).1
  done := by
    intro X hP hw hK hc i pins s σ H E I hf st hg
    subst hP hw hK
    obtain ⟨⟨old, he⟩, hit, hne⟩ := st
    obtain ⟨xs, hq, hx⟩ := hg
    obtain ⟨its, rv, p, hz⟩ := I.tuple hq
    obtain ⟨f0, f1, f2, f3, f4, f5⟩ := hf it (by simp)
    have hl := rv.length
    have hT : s.TypeIs (.ref e) "enumerate" := ⟨_, he, rfl⟩
    unfold pyNext
    refine wpAny_bind (wpAny_attempt (wpAny_callSpecial?_slot (name := Str.ofString "__next__") hT F.slot_enumerate_next
      (wpAny_call_entry F.slot_enumerate_next hT F.entry_enumerate_next ?_ (F.args_enumerate_next_1 _))))
    show wpAny _ _ (field (.ref e) 2 >>= _) _ _ _
    refine wpAny_bind (wpAny_field he rfl (x := .ref it) rfl ?_)
    refine wpAny_bind (wpAny_nextOf_tuple_end (I.ok.hd hc) hit p (by simp; omega) fun h' x he' hx' => ?_)
    obtain ⟨o, ho, hcl⟩ := hx'
    refine wpAny_bind (wpAny_isInstance (T := "StopIteration") (b := true) ⟨o, ho, hcl⟩ isSubtype_stop ?_)
    exact wpAny_pure ⟨rfl, I.turned (t' := s.toks) (fun b o hb q => he' b o hb q) f0 f1 f3 f4 f5⟩
  self := fun A i s Q E st h => let ⟨⟨_, he⟩, _⟩ := st; wpAny_pyIter_enum he h
def iEnumT (K : PySem.W.Frag) (ta : TA) : TI := fun σ H R => ta σ H fun vs H1 => ∃ a xs, vs = [.ref a] ∧ SqT K H1 a xs ∧ R (IteT K a) H1
theorem pi_enumT {X : Cx} {e : Expr} {ta : TA} {p pos tpos : Pos} {elts : List Expr} {kk : Nat} (hg : Gl X "enumerate") (hm : X.mg "enumerate" = none) (ha : PA X [e] ta) (hs : starEach [e] X.env = [(false, eval e X.env)] := by rfl) :
    PI X (.Tuple elts kk tpos) (.Call (.Name "enumerate" p) [e] [] pos) (iEnumT X.K ta) := by
  refine ⟨fun pins s σ H R I h => ?_⟩
  refine Call_ (ld_blt I hg hm boot_enumerate (PyProof.Rows.callWith_type1 (thn (ha.run pos pins s σ H _ I h) fun us s1 ⟨vs, H1, I1, r1, q1⟩ => ?_) hs rfl))
  obtain ⟨a, xs, ex, hq, q⟩ := q1
  subst ex
  cases r1 with
  | cons r rr =>
    cases rr
    cases r
    obtain ⟨its, rv, p', hz⟩ := I1.tuple hq
    have hal : a < s1.heap.objs.size := by obtain ⟨o, ho, _⟩ := p'; exact Heap.lt_size ho
    refine call_enumerate_tuple (show s1.heap.IsTuple a its.toArray from p') fun h' he hit hsz hk => wpAny_pyIter_enum he ?_
    have I2 : Inv X pins σ H1 { s1 with heap := h' } := I1.kept (t' := s1.toks) hk
    refine ⟨s1.heap.objs.size + 1, [s1.heap.objs.size + 1, s1.heap.objs.size], _, _, H1, rfl, I2, turn_enumT a (s1.heap.objs.size + 1) s1.heap.objs.size (Nat.ne_of_lt (Nat.lt_succ_of_lt hal)) (Nat.ne_of_lt hal), ⟨⟨.none, he⟩, hit, Nat.succ_ne_self _⟩, fun b hb => ?_, q⟩
    have e' : b = s1.heap.objs.size + 1 ∨ b = s1.heap.objs.size := by simpa using hb
    have hle : s1.heap.objs.size ≤ b := by
      rcases e' with z | z
      · rw [z]; exact Nat.le_add_right _ _
      · rw [z]; exact Nat.le_refl _
    exact I1.fpOk hle (I1.hok.fresh hle)
theorem walk_enumT {K : PySem.W.Frag} {a : Addr} {xs : List V} : Walk (IteT K a) xs.length (fun H => SqT K H a xs) (YPair (fun i => some (.int (i : Nat))) (fun i => xs[i]?)) := by
  refine ⟨fun i _ hi q => ⟨xs, xs[i], q, by simp [hi]⟩, fun _ q => ⟨xs, q, Nat.le_refl _⟩, fun i H v H' _ q y => ?_⟩
  obtain ⟨T, x, h1, h2, h3, h4⟩ := y
  exact ⟨T, .int (i : Nat), x, h1, h2, h3, rfl, h4 xs q⟩

/-! ### list(zip(tuple, tuple)) -/
section
variable {prog : Program} {w : World} {A : Around} {E : Value → Shared → Prop} {s : Shared}
theorem zipT_next_item_held {z TI TO T i1 i2 l1 l2 : Addr} {f : Bool} {oT : Obj} {k1 k2 : Nat} {xs ys : Array Value} {x y : Value} {Q : Value → Shared → Prop} (D : ZipApart z TI TO i1 i2 l1 l2)
    (hz : IsZipHeld s.heap z TI TO T f) (hT : s.heap.get? T = some oT) (hTI : IsPair s.heap TI (.ref i1) (.ref i2))
    (h1 : s.heap.IsTupleIter i1 l1 k1) (h2 : s.heap.IsTupleIter i2 l2 k2) (hl1 : s.heap.IsTuple l1 xs) (hl2 : s.heap.IsTuple l2 ys) (hx : xs[k1]? = some x) (hy : ys[k2]? = some y)
    (hQ : ∀ h', IsZipHeld h' z TI TO T true → h'.IsTupleIter i1 l1 (k1 + 1) → h'.IsTupleIter i2 l2 (k2 + 1) → IsPair h' s.heap.objs.size x y → h'.objs.size = s.heap.objs.size + 1 →
      (∀ c o, c ≠ z → c ≠ i1 → c ≠ i2 → s.heap.get? c = some o → h'.get? c = some o) → Q (.ref s.heap.objs.size) { s with heap := h' }) :
    wpAny (model prog w) A (Builtin.«zip.__next__» ⟨[.ref z], []⟩) (fun fin s' => ∃ v, fin = .done (.ret v) ∧ Q v s') E s := by
  show wpAny _ _ (field (.ref z) 2 >>= _) _ _ _
  refine wpAny_bind (wpAny_field hz rfl (x := .bool false) rfl ?_)
  show wpAny _ _ (field (.ref z) 3 >>= _) _ _ _
  refine wpAny_bind (wpAny_field hz rfl (x := .ref TI) rfl ?_)
  refine wpAny_bind (wpAny_seqItems hTI rfl ?_)
  show wpAny _ _ (Builtin.SmallTypes.ownedTupleIsFree (.ref z) >>= _) _ _ _
  refine wpAny_bind (wpAny_tupleHeld_zip hz hT fun h₁ hz₁ hs₁ => ?_)
  simp only [Bool.false_eq_true, if_false]
  refine wpAny_bind ?_
  rw [← Array.forIn_toList]
  simp only [List.forIn_cons, List.forIn_nil]
  refine wpAny_bind (wpAny_bind (wpAny_holding ?_))
  show wpAny _ _ (Builtin.SmallTypes.nextOf (.ref i1) >>= _) _ _ _
  refine wpAny_bind (RZ.nextOf_tuple_item (s := { s with heap := h₁ }) (h1.extBut hs₁.extBut D.i1z) (hl1.extBut hs₁.extBut D.l1z) hx fun h₂ h1₂ hs₂ => wpAny_pure ?_)
  refine wpAny_pure ?_
  refine wpAny_bind (wpAny_bind (wpAny_holding ?_))
  show wpAny _ _ (Builtin.SmallTypes.nextOf (.ref i2) >>= _) _ _ _
  refine wpAny_bind (RZ.nextOf_tuple_item (s := { s with heap := h₂ }) ((h2.extBut hs₁.extBut D.i2z).extBut hs₂.extBut D.i12.symm) ((hl2.extBut hs₁.extBut D.l2z).extBut hs₂.extBut D.l2i1) hy fun h₃ h2₃ hs₃ => wpAny_pure ?_)
  refine wpAny_pure (wpAny_pure ?_)
  show wpAny _ _ (newTuple [x, y] >>= _) _ _ _
  refine wpAny_bind (wpAny_newTuple ?_)
  have hsz : h₃.objs.size = s.heap.objs.size := by rw [hs₃.1, hs₂.1, hs₁.1]
  have hz₃ : IsZipHeld h₃ z TI TO T true := hs₃.extBut _ _ D.i2z.symm (hs₂.extBut _ _ D.i1z.symm hz₁)
  have hk : ∀ c o, c ≠ z → c ≠ i1 → c ≠ i2 → s.heap.get? c = some o → h₃.get? c = some o := fun c o c1 c2 c3 e => hs₃.extBut _ _ c3 (hs₂.extBut _ _ c2 (hs₁.extBut _ _ c1 e))
  have h1₃ : h₃.IsTupleIter i1 l1 (k1 + 1) := h1₂.extBut hs₃.extBut D.i12
  refine wpAny_pure ⟨_, rfl, ?_⟩
  show Q (.ref h₃.objs.size) _
  have hp : IsPair (h₃.push { cls := .type "tuple", data := .seq #[x, y] }) h₃.objs.size x y := Heap.get?_push_size _ rfl
  have hz4 : (h₃.push { cls := .type "tuple", data := .seq #[x, y] }).objs.size = h₃.objs.size + 1 := Heap.size_push ..
  rw [hsz] at hp hz4 ⊢
  exact hQ _ (Heap.get?_push_of_some _ hz₃) (h1₃.at fun o e => Heap.get?_push_of_some _ e) (h2₃.at fun o e => Heap.get?_push_of_some _ e) hp hz4 fun c o c1 c2 c3 e => Heap.get?_push_of_some _ (hk c o c1 c2 c3 e)

theorem zipT_next_end_held {z TI TO T i1 i2 l1 l2 : Addr} {f : Bool} {oT : Obj} {k1 k2 : Nat} {xs ys : Array Value} {Q : Fin → Shared → Prop} (hh : A.handled = none) (D : ZipApart z TI TO i1 i2 l1 l2)
    (hz : IsZipHeld s.heap z TI TO T f) (hT : s.heap.get? T = some oT) (hTI : IsPair s.heap TI (.ref i1) (.ref i2))
    (h1 : s.heap.IsTupleIter i1 l1 k1) (h2 : s.heap.IsTupleIter i2 l2 k2) (hl1 : s.heap.IsTuple l1 xs) (hl2 : s.heap.IsTuple l2 ys) (hend : xs[k1]? = none ∨ ys[k2]? = none)
    (hE : ∀ h' e, (∀ c o, c ≠ z → c ≠ i1 → c ≠ i2 → s.heap.get? c = some o → h'.get? c = some o) → (∃ o, h'.get? e = some o ∧ o.cls = .type "StopIteration") → E (.ref e) { s with heap := h' }) :
    wpAny (model prog w) A (Builtin.«zip.__next__» ⟨[.ref z], []⟩) Q E s := by
  show wpAny _ _ (field (.ref z) 2 >>= _) _ _ _
  refine wpAny_bind (wpAny_field hz rfl (x := .bool false) rfl ?_)
  show wpAny _ _ (field (.ref z) 3 >>= _) _ _ _
  refine wpAny_bind (wpAny_field hz rfl (x := .ref TI) rfl ?_)
  refine wpAny_bind (wpAny_seqItems hTI rfl ?_)
  show wpAny _ _ (Builtin.SmallTypes.ownedTupleIsFree (.ref z) >>= _) _ _ _
  refine wpAny_bind (wpAny_tupleHeld_zip hz hT fun h₁ hz₁ hs₁ => ?_)
  simp only [Bool.false_eq_true, if_false]
  refine wpAny_bind ?_
  rw [← Array.forIn_toList]
  simp only [List.forIn_cons, List.forIn_nil]
  refine wpAny_bind (wpAny_bind (wpAny_holding ?_))
  show wpAny _ _ (Builtin.SmallTypes.nextOf (.ref i1) >>= _) _ _ _
  cases hx : xs[k1]? with
  | none =>
    refine wpAny_bind (RZ.nextOf_tuple_end (s := { s with heap := h₁ }) hh (h1.extBut hs₁.extBut D.i1z) (hl1.extBut hs₁.extBut D.l1z) hx fun h₂ e hs₂ he => ?_)
    exact hE h₂ e (fun c o c1 c2 _ x => hs₂ _ _ c2 (hs₁.extBut _ _ c1 x)) he
  | some x =>
    have hy : ys[k2]? = none := by rcases hend with h | h; rw [hx] at h; cases h; exact h
    refine wpAny_bind (RZ.nextOf_tuple_item (s := { s with heap := h₁ }) (h1.extBut hs₁.extBut D.i1z) (hl1.extBut hs₁.extBut D.l1z) hx fun h₂ h1₂ hs₂ => wpAny_pure ?_)
    refine wpAny_pure ?_
    refine wpAny_bind (wpAny_bind (wpAny_holding ?_))
    show wpAny _ _ (Builtin.SmallTypes.nextOf (.ref i2) >>= _) _ _ _
    refine wpAny_bind (RZ.nextOf_tuple_end (s := { s with heap := h₂ }) hh ((h2.extBut hs₁.extBut D.i2z).extBut hs₂.extBut D.i12.symm) ((hl2.extBut hs₁.extBut D.l2z).extBut hs₂.extBut D.l2i1) hy fun h₃ e hs₃ he => ?_)
    exact hE h₃ e (fun c o c1 c2 c3 x => hs₃ _ _ c3 (hs₂.extBut _ _ c2 (hs₁.extBut _ _ c1 x))) he

theorem pyNext_zipT_item_held {z TI TO T i1 i2 l1 l2 : Addr} {f : Bool} {oT : Obj} {k1 k2 : Nat} {xs ys : Array Value} {x y : Value} {Q : Option Value → Shared → Prop} (D : ZipApart z TI TO i1 i2 l1 l2)
    (hz : IsZipHeld s.heap z TI TO T f) (hT : s.heap.get? T = some oT) (hTI : IsPair s.heap TI (.ref i1) (.ref i2))
    (h1 : s.heap.IsTupleIter i1 l1 k1) (h2 : s.heap.IsTupleIter i2 l2 k2) (hl1 : s.heap.IsTuple l1 xs) (hl2 : s.heap.IsTuple l2 ys) (hx : xs[k1]? = some x) (hy : ys[k2]? = some y)
    (hQ : ∀ h', IsZipHeld h' z TI TO T true → h'.IsTupleIter i1 l1 (k1 + 1) → h'.IsTupleIter i2 l2 (k2 + 1) → IsPair h' s.heap.objs.size x y → h'.objs.size = s.heap.objs.size + 1 →
      (∀ c o, c ≠ z → c ≠ i1 → c ≠ i2 → s.heap.get? c = some o → h'.get? c = some o) → Q (some (.ref s.heap.objs.size)) { s with heap := h' }) :
    wpAny (model prog w) A (pyNext (.ref z)) Q E s := by
  have hTy : s.TypeIs (.ref z) "zip" := ⟨_, hz, rfl⟩
  unfold pyNext
  exact wpAny_bind (wpAny_attempt (wpAny_callSpecial?_slot (name := Str.ofString "__next__") hTy F.slot_zip_next
    (wpAny_call_entry F.slot_zip_next hTy F.entry_zip_next
      (zipT_next_item_held D hz hT hTI h1 h2 hl1 hl2 hx hy fun h' a1 a3 a4 a5 a6 a7 => wpAny_pure (hQ h' a1 a3 a4 a5 a6 a7)) (F.args_zip_next_1 _))))
theorem pyNext_zipT_end_held {z TI TO T i1 i2 l1 l2 : Addr} {f : Bool} {oT : Obj} {k1 k2 : Nat} {xs ys : Array Value} {Q : Option Value → Shared → Prop} (hh : A.handled = none) (D : ZipApart z TI TO i1 i2 l1 l2)
    (hz : IsZipHeld s.heap z TI TO T f) (hT : s.heap.get? T = some oT) (hTI : IsPair s.heap TI (.ref i1) (.ref i2))
    (h1 : s.heap.IsTupleIter i1 l1 k1) (h2 : s.heap.IsTupleIter i2 l2 k2) (hl1 : s.heap.IsTuple l1 xs) (hl2 : s.heap.IsTuple l2 ys) (hend : xs[k1]? = none ∨ ys[k2]? = none)
    (hQ : ∀ h', (∀ c o, c ≠ z → c ≠ i1 → c ≠ i2 → s.heap.get? c = some o → h'.get? c = some o) → Q none { s with heap := h' }) : wpAny (model prog w) A (pyNext (.ref z)) Q E s := by
  have hTy : s.TypeIs (.ref z) "zip" := ⟨_, hz, rfl⟩
  unfold pyNext
  refine wpAny_bind (wpAny_attempt (wpAny_callSpecial?_slot (name := Str.ofString "__next__") hTy F.slot_zip_next
    (wpAny_call_entry F.slot_zip_next hTy F.entry_zip_next (zipT_next_end_held hh D hz hT hTI h1 h2 hl1 hl2 hend fun h' e hk he => ?_) (F.args_zip_next_1 _))))
  obtain ⟨o, ho, hc⟩ := he
  refine wpAny_bind (wpAny_isInstance (T := "StopIteration") (b := true) ⟨o, ho, hc⟩ isSubtype_stop ?_)
  exact wpAny_pure (hQ _ hk)
end
theorem zip_no_len : typeLookup (.type "zip") "__len__" = pure none := am_miss_of_fast (by decide +kernel)
theorem zip_no_hint : typeLookup (.type "zip") "__length_hint__" = pure none := am_miss_of_fast (by decide +kernel)
theorem hint_zip {M : Model} {A : Around} {E : Value → Shared → Prop} {s : Shared} {z : Addr} {Q : Bool → Shared → Prop} (hT : s.TypeIs (.ref z) "zip") (h : Q true s) :
    wpAny M A (Builtin.List.listLengthHint (.ref z)) Q E s := by
  unfold Builtin.List.listLengthHint
  refine wpAny_bind (wpAny_specialOf hT zip_no_len ?_)
  refine PySem.W.KFB.if_not rfl ?_
  refine PySem.W.KFB.if_not rfl ?_
  refine wpAny_bind (wpAny_specialOf hT zip_no_hint ?_)
  exact wpAny_pure h

def PairsIn (H0 H : Hp) (xs ys : List V) (q : Addr) (i : Nat) (ts : List V) : Prop :=
  (∀ c o, H0 c = some o → H c = some o) ∧ H0 q = none ∧ ts.length = i ∧ ∀ (j : Nat) (x y : V), j < i → xs[j]? = some x → ys[j]? = some y → ∃ T, ts[j]? = some (.ref T) ∧ H0 T = none ∧ T ≠ q ∧ H T = some (.tup [x, y])
def ZS (z TI TO i1 i2 a b q : Addr) (i : Nat) (h : Heap) : Prop :=
  (IsZip h z TI TO .none ∨ ∃ T f oT, IsZipHeld h z TI TO T f ∧ h.get? T = some oT ∧ T ≠ q ∧ T ∉ [z, TI, TO, i1, i2]) ∧ (∃ x y, IsPair h TO x y) ∧ IsPair h TI (.ref i1) (.ref i2) ∧ h.IsTupleIter i1 a i ∧ h.IsTupleIter i2 b i
theorem PairsIn.step {H0 H : Hp} {xs ys : List V} {q T : Addr} {i : Nat} {ts : List V} {x y : V} (p : PairsIn H0 H xs ys q i ts) (hT : H T = none) (hTq : T ≠ q) (hx : xs[i]? = some x) (hy : ys[i]? = some y) :
    PairsIn H0 (upd (upd H T (.tup [x, y])) q (.lst (ts ++ [.ref T]))) xs ys q (i + 1) (ts ++ [.ref T]) := by
  obtain ⟨p1, p2, p3, p4⟩ := p
  have h0T : H0 T = none := by
    cases e : H0 T with
    | none => rfl
    | some o => rw [p1 T o e] at hT; cases hT
  refine ⟨fun c o e => ?_, p2, by simp [p3], fun j x' y' hj hx' hy' => ?_⟩
  · rw [upd_ne (ne_of_none e p2), upd_ne (ne_of_none (p1 c o e) hT)]
    exact p1 c o e
  · by_cases hji : j = i
    · subst hji
      rw [hx] at hx'
      rw [hy] at hy'
      cases hx'
      cases hy'
      refine ⟨T, ?_, h0T, hTq, ?_⟩
      · rw [← p3]; simp
      · rw [upd_ne hTq, upd_same]
    · obtain ⟨T', e1, e2, e3, e4⟩ := p4 j x' y' (by omega) hx' hy'
      refine ⟨T', ?_, e2, e3, ?_⟩
      · rw [List.getElem?_append_left (by omega)]; exact e1
      · rw [upd_ne e3, upd_ne (ne_of_none e4 hT)]; exact e4

section
variable {X : Cx} {pins : List (Addr × Obj)} {σ : L2.St}
theorem lz_loop {A1 : Around} {Rs : Result → Shared → Prop} {z TI TO i1 i2 a b q : Addr} (hA : A1.in1.handled = none) (D : ZipApart z TI TO i1 i2 a b) {its its2 : List Value} {xs ys : List V} (rx : Vals xs its) (ry : Vals ys its2)
    (hl : xs.length = ys.length) (hn : xs.length < sizeLine) (hqa : q ≠ a) (hqb : q ≠ b) (H0 : Hp)
    (hdone : ∀ ts H s, Inv X pins σ H s → H q = some (.lst ts) → PairsIn H0 H xs ys q xs.length ts → Rs (.ok (.ret .none)) s) :
    ∀ (m i : Nat) (acc : List V) (H : Hp) (s : Shared), m + i = xs.length → Inv X pins σ H s → ZS z TI TO i1 i2 a b q i s.heap → IsTup s.heap a its.toArray → IsTup s.heap b its2.toArray →
      (∀ c ∈ [z, TI, TO, i1, i2], FpOk X pins H c) → H q = some (.lst acc) → PairsIn H0 H xs ys q i acc →
      codeAny (model X.prog X.w) A1 (.builtin "list.extend.loop" ⟨[.ref q, .ref z, .none], []⟩) Rs s := by
  intro m
  induction m with
  | zero =>
    intro i acc H s hm I zs ta tb hf hq hp
    have hi : i = xs.length := by omega
    subst hi
    refine codeAny_builtin PySem.F.entry_extend_loop ?_
    rw [Around.under_plainId PySem.F.plain_extend_loop _]
    show wpAny _ A1.in1 (pyNext (.ref z) >>= _) _ _ s
    obtain ⟨zc, ⟨x0, y0, hTO⟩, hTI, h1, h2⟩ := zs
    have l1 := rx.length
    have he : its.toArray[xs.length]? = none ∨ its2.toArray[xs.length]? = none := .inl (by simp; omega)
    have fin : ∀ h', (∀ c o, c ∉ [z, TI, TO, i1, i2] → s.heap.get? c = some o → h'.get? c = some o) → Rs (.ok (.ret .none)) { s with heap := h' } := fun h' hk =>
      hdone acc H _ (I.turnedL (t' := s.toks) hk hf) hq hp
    rcases zc with hz | ⟨T, f, oT, hz, hT, _⟩
    · refine wpAny_bind (RZ.pyNext_zipT_end hA D hz hTI hTO h1 h2 (show s.heap.IsTuple a _ from ta) tb he fun h' hk => ?_)
      exact wpAny_pure (fin h' fun c o hc e => hk c o (fun z => hc (by simp [z])) (fun z => hc (by simp [z])) (fun z => hc (by simp [z])) (fun z => hc (by simp [z])) e)
    · refine wpAny_bind (pyNext_zipT_end_held hA D hz hT hTI h1 h2 ta tb he fun h' hk => ?_)
      exact wpAny_pure (fin h' fun c o hc e => hk c o (fun z => hc (by simp [z])) (fun z => hc (by simp [z])) (fun z => hc (by simp [z])) e)
  | succ m ih =>
    intro i acc H s hm I zs ta tb hf hq hp
    have hi : i < xs.length := by omega
    have l1 := rx.length
    have l2 := ry.length
    refine codeAny_builtin PySem.F.entry_extend_loop ?_
    rw [Around.under_plainId PySem.F.plain_extend_loop _]
    show wpAny _ A1.in1 (pyNext (.ref z) >>= _) _ _ s
    obtain ⟨zc, ⟨x0, y0, hTO⟩, hTI, h1, h2⟩ := zs
    have hx : xs[i]? = some xs[i] := List.getElem?_eq_getElem hi
    have hy : ys[i]? = some (ys[i]'(by omega)) := List.getElem?_eq_getElem (by omega)
    obtain ⟨u, hu, ru⟩ := rx.get hx
    obtain ⟨u2, hu2, ru2⟩ := ry.get hy
    generalize xs[i] = x at hx ru
    generalize ys[i]'(by omega) = y at hy ru2
    have hqz : ∀ c ∈ [z, TI, TO, i1, i2], q ≠ c := fun c hc => ne_of_none hq (hf c hc).1
    have hzl : z < s.heap.objs.size := by
      rcases zc with hz | ⟨_, _, _, hz, _⟩
      · exact Heap.lt_size hz
      · exact Heap.lt_size hz
    have hfl : ∀ c ∈ [z, TI, TO, i1, i2], c < s.heap.objs.size := fun c hcm => by
      have e' : c = z ∨ c = TI ∨ c = TO ∨ c = i1 ∨ c = i2 := by simpa using hcm
      rcases e' with q | q | q | q | q
      · rw [q]; exact hzl
      · rw [q]; exact Heap.lt_size hTI
      · rw [q]; exact Heap.lt_size hTO
      · rw [q]; obtain ⟨_, e1, _⟩ := h1; exact Heap.lt_size e1
      · rw [q]; obtain ⟨_, e1, _⟩ := h2; exact Heap.lt_size e1
    have hqs : q < s.heap.objs.size := I.hok.lt hq
    have fr : H s.heap.objs.size = none := I.hok.fresh (Nat.le_refl _)
    have hal : a < s.heap.objs.size := by obtain ⟨o, ho, _⟩ := ta; exact Heap.lt_size ho
    have hbl : b < s.heap.objs.size := by obtain ⟨o, ho, _⟩ := tb; exact Heap.lt_size ho
    have go : ∀ h', (∃ T f oT, IsZipHeld h' z TI TO T f ∧ h'.get? T = some oT ∧ T ≠ q ∧ T ∉ [z, TI, TO, i1, i2]) → (∃ x y, IsPair h' TO x y) → IsPair h' TI (.ref i1) (.ref i2) → h'.IsTupleIter i1 a (i + 1) → h'.IsTupleIter i2 b (i + 1) → IsTup h' a its.toArray → IsTup h' b its2.toArray → IsPair h' s.heap.objs.size u u2 →
        (∀ c o, c ∉ [z, TI, TO, i1, i2] → s.heap.get? c = some o → h'.get? c = some o) →
        wpAny (model X.prog X.w) A1.in1 (updateSeq q (·.push (.ref s.heap.objs.size)) >>= fun _ => again (.builtin "list.extend.loop" ⟨[.ref q, .ref z, .none], []⟩))
          (fun fin s' => match fin with | .done f => Rs (.ok f) s' | .again c' => c'.quiet = true ∧ codeAny (model X.prog X.w) A1 c' Rs s') (fun e s' => Rs (.error e) s') { s with heap := h' } := by
      rintro h' ⟨T, f, oT, hz', hT', hTq, hTf⟩ ⟨x1, y1, hTO'⟩ hTI' h1' h2' ta' tb' hp' hk
      have new : ObjOk X.prog X.w (upd H s.heap.objs.size (.tup [x, y])) h' s.heap.objs.size (.tup [x, y]) :=
        ⟨by show 2 ≤ sizeLine; decide, [u, u2], .cons ru (.cons ru2 .nil), ⟨_, hp', rfl, _, rfl⟩⟩
      have I1 : Inv X pins σ (upd H s.heap.objs.size (.tup [x, y])) { s with heap := h' } := I.turnedNew (t' := s.toks) (ch := [z, TI, TO, i1, i2]) hk hf (Nat.le_refl _) new
      have hq1 : upd H s.heap.objs.size (.tup [x, y]) q = some (.lst acc) := by rw [upd_ne (Nat.ne_of_lt hqs)]; exact hq
      obtain ⟨zl, its3, k, r3, hl3, e3⟩ := I1.lstM hq1
      refine wpAny_bind (wpAny_updateSeq e3 rfl (wpAny_pure ⟨plainId_quiet PySem.F.plain_extend_loop _, ?_⟩) (by rw [List.size_toArray, ← hl3, hp.2.2.1]; omega) (by show (its3.toArray.push _).size ≤ sizeLine + 1; rw [Array.size_push, List.size_toArray, ← hl3, hp.2.2.1]; omega))
      have I2 := I1.lset (f := (·.push (Value.ref s.heap.objs.size))) (its' := its3 ++ [Value.ref s.heap.objs.size]) (ys := acc ++ [V.ref s.heap.objs.size]) (t' := s.toks) hq1 e3 (by simp) (r3.append (.cons rfl .nil)) (by rw [List.length_append, List.length_singleton, hp.2.2.1]; omega)
      have oth : ∀ c o, c ≠ q → h'.get? c = some o → (h'.update q (Obj.mapSeq (·.push (.ref s.heap.objs.size)))).get? c = some o := fun c o hc e => (Heap.get?_update_other _ _ (Ne.symm hc)).trans e
      refine ih (i + 1) (acc ++ [.ref s.heap.objs.size]) _ _ (by omega) I2 ⟨.inr ⟨T, f, oT, oth _ _ (hqz z (by simp)).symm hz', oth _ _ hTq hT', hTq, hTf⟩, ⟨x1, y1, oth _ _ (hqz TO (by simp)).symm hTO'⟩, oth _ _ (hqz TI (by simp)).symm hTI', h1'.at fun o e => oth _ _ (hqz i1 (by simp)).symm e, h2'.at fun o e => oth _ _ (hqz i2 (by simp)).symm e⟩
        (let ⟨o, ho, r⟩ := ta'; ⟨o, oth _ _ hqa.symm ho, r⟩) (let ⟨o, ho, r⟩ := tb'; ⟨o, oth _ _ hqb.symm ho, r⟩) (fun c hc => ?_) upd_same (hp.step fr (Nat.ne_of_gt hqs) hx hy)
      obtain ⟨f0, f1⟩ := hf c hc
      refine ⟨?_, f1⟩
      rw [upd_ne (hqz c hc).symm, upd_ne (Nat.ne_of_lt (hfl c hc))]
      exact f0
    have nsz : s.heap.objs.size ∉ [z, TI, TO, i1, i2] := fun hm => Nat.lt_irrefl _ (hfl _ hm)
    rcases zc with hz | ⟨T, f, oT, hz, hT, hTq, hTf⟩
    · refine wpAny_bind (RZ.pyNext_zipT_item D hz hTI hTO h1 h2 (show s.heap.IsTuple a _ from ta) tb (x := u) (y := u2) (by simpa using hu) (by simpa using hu2) fun h' z' TO' h1' h2' hT hsz hk => ?_)
      exact go h' ⟨_, false, _, z', hT, Nat.ne_of_gt hqs, nsz⟩ ⟨_, _, TO'⟩ (hk _ _ D.TIz D.TITO D.TIi1 D.TIi2 hTI) h1' h2' (let ⟨o, ho, r⟩ := ta; ⟨o, hk _ _ D.l1z D.l1TO D.l1i1 D.l1i2 ho, r⟩) (let ⟨o, ho, r⟩ := tb; ⟨o, hk _ _ D.l2z D.l2TO D.l2i1 D.l2i2 ho, r⟩) hT
        fun c o hc e => hk c o (fun z => hc (by simp [z])) (fun z => hc (by simp [z])) (fun z => hc (by simp [z])) (fun z => hc (by simp [z])) e
    · refine wpAny_bind (pyNext_zipT_item_held D hz hT hTI h1 h2 (show s.heap.IsTuple a _ from ta) tb (x := u) (y := u2) (by simpa using hu) (by simpa using hu2) fun h' z' h1' h2' hT2 hsz hk => ?_)
      exact go h' ⟨T, true, _, z', hk _ _ (fun z => hTf (by simp [z])) (fun z => hTf (by simp [z])) (fun z => hTf (by simp [z])) hT, hTq, hTf⟩ ⟨_, _, hk _ _ D.TOz D.TOi1 D.TOi2 hTO⟩ (hk _ _ D.TIz D.TIi1 D.TIi2 hTI) h1' h2' (let ⟨o, ho, r⟩ := ta; ⟨o, hk _ _ D.l1z D.l1i1 D.l1i2 ho, r⟩) (let ⟨o, ho, r⟩ := tb; ⟨o, hk _ _ D.l2z D.l2i1 D.l2i2 ho, r⟩) hT2
        fun c o hc e => hk c o (fun z => hc (by simp [z])) (fun z => hc (by simp [z])) (fun z => hc (by simp [z])) e

/-- the pairs of two tuples of one length, as new tuples in a new list -/
def rLz (K : PySem.W.Frag) : List V → Hp → VK → Prop := fun vs H Q => ∃ a b xs ys, vs = [.ref a, .ref b] ∧ SqT K H a xs ∧ SqT K H b ys ∧ xs.length = ys.length ∧ xs.length < sizeLine ∧
  ∀ q ts H', H q = none → H' q = some (.lst ts) → PairsIn H H' xs ys q xs.length ts → Q (.ref q) H'
theorem pe_listZip {e e2 : Expr} {ta : TA} {p p2 pos pos2 : Pos} (hc : X.calm = true) (hgl : Gl X "list") (hml : X.mg "list" = none) (hg : Gl X "zip") (hm : X.mg "zip" = none) (ha : PA X [e, e2] ta)
    (hs : starEach [e, e2] X.env = (false, eval e X.env) :: starEach [e2] X.env := by rfl) (hpl : (backTo pos2 (starEach [e2] X.env)).any (·.1) = false := by rfl)
    (na : starEach [.Call (.Name "zip" p2) [e, e2] [] pos2] X.env = (false, eval (.Call (.Name "zip" p2) [e, e2] [] pos2) X.env) :: starEach [] X.env := by rfl) :
    PE X (.Call (.Name "list" p) [.Call (.Name "zip" p2) [e, e2] [] pos2] [] pos) (tCB (rLz X.K) ta) := by
  refine ⟨fun pins s σ H Q I h => ?_⟩
  refine Call_ (ld_blt I hgl hml boot_list (PyProof.Rows.callWith_type1 (args_cons (Call_ (ld_blt I hg hm PyProof.Rows.boot_zip (PyProof.Rows.callWith_type1 (thn (ha.run pos2 pins s σ H _ I h) fun us s1 ⟨vs, H1, I1, r1, q1⟩ => ?_) hs hpl))) na) na))
  obtain ⟨a, b, xs, ys, rfl, hqx, hqy, hl, hz, q1⟩ := q1
  cases r1 with
  | cons r rr =>
    cases rr with
    | cons r' rr =>
      cases rr
      cases r
      cases r'
      obtain ⟨its, rv, p1, _⟩ := I1.tuple hqx
      obtain ⟨its2, rv2, p2, _⟩ := I1.tuple hqy
      have hal := p1.lt
      have hbl := p2.lt
      refine RZ.call_zipT (show s1.heap.IsTuple a its.toArray from p1) (show s1.heap.IsTuple b its2.toArray from p2) fun h' hz0 hTI hTO h1 h2 hsz hk => args_nil ?_
      have I2 : Inv X pins σ H1 { s1 with heap := h' } := I1.kept (t' := s1.toks) hk
      refine callType_codes (Q₁ := fun obj s₁ => obj = .ref h'.objs.size ∧ s₁ = { s1 with heap := h'.push { cls := .type "list", data := .seq #[] } }) PySem.F.called_list (PySem.F.typeCall_list_1 _) PySem.F.entry_list_init
        (code_list_new _ ⟨rfl, rfl⟩) fun obj s₁ h₁ => ?_
      obtain ⟨rfl, rfl⟩ := h₁
      have hS : (h'.push { cls := .type "list", data := .seq #[] }).get? h'.objs.size = some { cls := .type "list", data := .seq #[] } := Heap.get?_push_size _ rfl
      refine ⟨⟨_, hS, rfl⟩, PySem.F.args_list_init_2 _ _, ?_⟩
      have fr : H1 h'.objs.size = none := I2.hok.fresh (Nat.le_refl _)
      have I3 : Inv X pins σ (upd H1 h'.objs.size (.lst [])) { s1 with heap := h'.push { cls := .type "list", data := .seq #[] } } := I2.lnew (its := []) (t' := s1.toks) .nil (Nat.zero_le _)
      show wpAny _ _ (do let old ← Builtin.List.listItems (.ref h'.objs.size); Builtin.List.listUpdate (.ref h'.objs.size) (fun _ => #[]); letGo old.toList.reverse; Builtin.List.listExtendWith (.ref h'.objs.size) (.ref (s1.heap.objs.size + 4)) .none) _ _ _
      refine wpAny_bind ?_
      unfold Builtin.List.listItems
      refine wpAny_bind (wpAny_seqItems hS rfl (wpAny_pure ?_))
      show wpAny _ _ (updateSeq h'.objs.size (fun _ => #[]) >>= fun _ => letGo (#[] : Array Value).toList.reverse >>= fun _ => Builtin.List.listExtendWith (.ref h'.objs.size) (.ref (s1.heap.objs.size + 4)) .none) _ _ _
      refine wpAny_bind (wpAny_updateSeq hS rfl ?_)
      have I4 := I3.lset (f := fun _ => #[]) (its := []) (its' := []) (ys := []) (t' := s1.toks) upd_same hS rfl .nil (Nat.zero_le _)
      rw [upd_upd] at I4
      have S4 := Heap.get?_update_self (Obj.mapSeq (fun _ => (#[] : Array Value))) hS rfl
      refine wpAny_bind (wpAny_letGo ?_)
      have keep : ∀ c o, h'.get? c = some o → ((h'.push { cls := .type "list", data := .seq #[] }).update h'.objs.size (Obj.mapSeq fun _ => #[])).get? c = some o := fun c o e =>
        (Heap.get?_update_other _ _ (Nat.ne_of_gt (Heap.lt_size e))).trans (Heap.get?_push_of_some _ e)
      generalize hh4 : ((h'.push { cls := .type "list", data := .seq #[] }).update h'.objs.size (Obj.mapSeq fun _ => #[])) = h4 at I4 S4 keep ⊢
      have ap : ZipApart (s1.heap.objs.size + 4) (s1.heap.objs.size + 2) (s1.heap.objs.size + 3) s1.heap.objs.size (s1.heap.objs.size + 1) a b := PySem.W.ktu_apart s1.heap.objs.size a b hal hbl
      have hz4 : (s1.heap.objs.size + 4) < h'.objs.size := by rw [hsz]; exact Nat.lt_succ_self _
      have ne4 : h'.objs.size ≠ s1.heap.objs.size + 4 := Nat.ne_of_gt hz4
      have zs0 : ∀ hx : Heap, (∀ c o, c < h'.objs.size → h4.get? c = some o → hx.get? c = some o) → ZS (s1.heap.objs.size + 4) (s1.heap.objs.size + 2) (s1.heap.objs.size + 3) s1.heap.objs.size (s1.heap.objs.size + 1) a b h'.objs.size 0 hx ∧ IsTup hx a its.toArray ∧ IsTup hx b its2.toArray := fun hx hk4 => by
        have k2 : ∀ c o, h'.get? c = some o → hx.get? c = some o := fun c o e => hk4 c o (Heap.lt_size e) (keep c o e)
        exact ⟨⟨.inl (k2 _ _ hz0), ⟨_, _, k2 _ _ hTO⟩, k2 _ _ hTI, h1.at fun o e => k2 _ o e, h2.at fun o e => k2 _ o e⟩, (let ⟨o, ho, r⟩ := p1; ⟨o, k2 _ _ (hk _ _ ho), r⟩), (let ⟨o, ho, r⟩ := p2; ⟨o, k2 _ _ (hk _ _ ho), r⟩)⟩
      have fp : ∀ c ∈ [s1.heap.objs.size + 4, s1.heap.objs.size + 2, s1.heap.objs.size + 3, s1.heap.objs.size, s1.heap.objs.size + 1], FpOk X pins (upd H1 h'.objs.size (.lst [])) c := fun c hcm => by
        have e' : c = s1.heap.objs.size + 4 ∨ c = s1.heap.objs.size + 2 ∨ c = s1.heap.objs.size + 3 ∨ c = s1.heap.objs.size ∨ c = s1.heap.objs.size + 1 := by simpa using hcm
        have hle : s1.heap.objs.size ≤ c ∧ c < h'.objs.size := by
          rw [hsz]
          rcases e' with z | z | z | z | z
          · rw [z]; exact ⟨Nat.le_add_right _ _, Nat.add_lt_add_left (by decide) _⟩
          · rw [z]; exact ⟨Nat.le_add_right _ _, Nat.add_lt_add_left (by decide) _⟩
          · rw [z]; exact ⟨Nat.le_add_right _ _, Nat.add_lt_add_left (by decide) _⟩
          · rw [z]; exact ⟨Nat.le_refl _, Nat.lt_add_of_pos_right (by decide)⟩
          · rw [z]; exact ⟨Nat.le_add_right _ _, Nat.add_lt_add_left (by decide) _⟩
        exact I1.fpOk hle.1 (by rw [upd_ne (Nat.ne_of_lt hle.2)]; exact I1.hok.fresh hle.1)
      have hlt1 : s1.heap.objs.size < h'.objs.size := by rw [hsz]; exact Nat.lt_add_of_pos_right (by decide)
      have hqa : h'.objs.size ≠ a := Nat.ne_of_gt (Nat.lt_trans hal hlt1)
      have hqb : h'.objs.size ≠ b := Nat.ne_of_gt (Nat.lt_trans hbl hlt1)
      have run : ∀ (hx : Heap) (tk : Nat), Inv X pins σ (upd H1 h'.objs.size (.lst [])) { s1 with heap := hx, toks := tk } → (∀ c o, c < h'.objs.size → h4.get? c = some o → hx.get? c = some o) →
          codeAny (model X.prog X.w) X.A.in1 (.builtin "list.extend.loop" ⟨[.ref h'.objs.size, .ref (s1.heap.objs.size + 4), .none], []⟩) (wants (fun r s₂ => r = .none ∧ EP X pins σ Q (.ref h'.objs.size) s₂) X.xe) { s1 with heap := hx, toks := tk } := fun hx tk Ix hkx =>
        lz_loop (A1 := X.A.in1) (I.ok.hd hc) ap rv rv2 hl hz hqa hqb H1 (fun ts H s Is hts hps => ⟨rfl, .ref h'.objs.size, H, Is, rfl, q1 _ ts H fr hts hps⟩)
          xs.length 0 [] _ _ (Nat.add_zero _) Ix (zs0 hx hkx).1 (zs0 hx hkx).2.1 (zs0 hx hkx).2.2 fp upd_same ⟨fun c o e => by rw [upd_ne (ne_of_none e fr)]; exact e, fr, rfl, fun j x y hj => absurd hj (Nat.not_lt_zero _)⟩
      unfold Builtin.List.listExtendWith
      refine wpAny_bind (wpAny_typeOf (T := "zip") ⟨_, keep _ _ hz0, rfl⟩ ?_)
      have e1 : Builtin.List.listSameRef (.ref h'.objs.size) (.ref (s1.heap.objs.size + 4)) = false := by simp [Builtin.List.listSameRef, ne4]
      have e2 : (Value.type "zip" == Value.type "list") = false := by decide +kernel
      have e3 : (Value.type "zip" == Value.type "tuple") = false := by decide +kernel
      simp only [e1, e2, e3, Bool.or_false, Bool.false_eq_true, if_false]
      refine wpAny_bind (wpAny_pyIter_zip (keep _ _ hz0) ?_)
      refine wpAny_bind (wpAny_holding (hint_zip ⟨_, keep _ _ hz0, rfl⟩ ?_))
      refine wpAny_ite_split (fun _ => ?_) (fun _ => wpAny_pure ⟨plainId_quiet PySem.F.plain_extend_loop _, run _ _ I4 fun _ _ _ e => e⟩)
      refine wpAny_bind (wpAny_rule ?_)
      refine wpAny_bind ?_
      show wpAny _ _ (updateSeq h'.objs.size (·.push .none) >>= fun _ => updateSeq h'.objs.size (·.pop)) _ _ _
      refine wpAny_bind (wpAny_updateSeq S4 rfl ?_)
      have S5 := Heap.get?_update_self (Obj.mapSeq (·.push Value.none)) S4 rfl
      refine wpAny_updateSeq (hz := by seq_fits) S5 rfl ?_
      have I5 := I4.lset (f := (·.push Value.none)) (its := []) (its' := [Value.none]) (ys := [V.non]) (t' := s1.toks) upd_same S4 (by rfl) (.cons rfl .nil) (by rw [List.length_singleton, sizeLine_eq]; decide)
      have I6 := I5.lset (f := (·.pop)) (its := [Value.none]) (its' := []) (ys := []) (t' := s1.toks) upd_same S5 (by rfl) .nil (Nat.zero_le _)
      rw [upd_upd, upd_upd] at I6
      refine wpAny_pure ⟨plainId_quiet PySem.F.plain_extend_loop _, run _ _ I6 fun c o hc e => ?_⟩
      exact (Heap.get?_update_other _ _ (Nat.ne_of_gt hc)).trans ((Heap.get?_update_other _ _ (Nat.ne_of_gt hc)).trans e)
end
end Lw
set_option Elab.async false
set_option linter.all false
set_option maxRecDepth 100000
set_option maxHeartbeats 4000000
/-! The data layer: what code does to values told as data, and to the few lists that it changes in place. -/
namespace Lw
open PySem PySem.Spec PyProof.Rows L2

/-! ### data -/
inductive Dt where
  | non | bl (b : Bool) | int (i : Int) | str (x : Str) | lst (xs : List Dt) | tup (xs : List Dt)
mutual
inductive Dq (K : PySem.W.Frag) (H : Hp) : V → Dt → Prop
  | non : Dq K H .non .non
  | bl (b : Bool) : Dq K H (.bl b) (.bl b)
  | int (i : Int) : Dq K H (.int i) (.int i)
  | str (x : Str) : Dq K H (.str x) (.str x)
  | lst {a : Addr} {xs : List V} {ds : List Dt} : H a = some (.lst xs) → DqAll K H xs ds → Dq K H (.ref a) (.lst ds)
  | tup {a : Addr} {xs : List V} {ds : List Dt} : SqT K H a xs → DqAll K H xs ds → Dq K H (.ref a) (.tup ds)
inductive DqAll (K : PySem.W.Frag) (H : Hp) : List V → List Dt → Prop
  | nil : DqAll K H [] []
  | cons {v : V} {vs : List V} {d : Dt} {ds : List Dt} : Dq K H v d → DqAll K H vs ds → DqAll K H (v :: vs) (d :: ds)
end
theorem Same.rd {H H' : Hp} {a : Addr} {u : HO} (e : Same H H') (h : Rd H a u) : Rd H' a u := by
  rcases h with h | ⟨o, h⟩
  · exact .inl (e _ _ h)
  · exact .inr ⟨o, e _ _ h⟩
theorem Same.sqt {K : PySem.W.Frag} {H H' : Hp} {a : Addr} {xs : List V} (e : Same H H') (h : SqT K H a xs) : SqT K H' a xs := by
  rcases h with h | h
  · exact .inl (Same.rd e h)
  · exact .inr h
theorem Same.new {H : Hp} {p : Addr} {o : HO} (h : H p = none) : Same H (upd H p o) := fun a u e => by
  rw [upd_ne (ne_of_none e h)]
  exact e
section
variable {K : PySem.W.Frag} {D D' H : Hp}
mutual
theorem Dq.mono (e : Same D D') : ∀ (d : Dt) (v : V), Dq K D v d → Dq K D' v d
  | .non, _, h => by cases h; exact .non
  | .bl _, _, h => by cases h; exact .bl _
  | .int _, _, h => by cases h; exact .int _
  | .str _, _, h => by cases h; exact .str _
  | .lst ds, _, h => by cases h with | lst h1 h2 => exact .lst (e _ _ h1) (DqAll.mono e ds _ h2)
  | .tup ds, _, h => by cases h with | tup h1 h2 => exact .tup (Same.sqt e h1) (DqAll.mono e ds _ h2)
theorem DqAll.mono (e : Same D D') : ∀ (ds : List Dt) (vs : List V), DqAll K D vs ds → DqAll K D' vs ds
  | [], _, h => by cases h; exact .nil
  | d :: ds, _, h => by cases h with | cons h1 h2 => exact .cons (Dq.mono e d _ h1) (DqAll.mono e ds _ h2)
end

/-! ### a slot's thing: data, a list that is changed in place, the script -/
inductive S where
  | d (x : Dt) | a (p : Addr) | scr (ns : List Int)
inductive MO where
  | lst (xs : List S)
abbrev Sto := Addr → Option MO
def put (M : Sto) (p : Addr) (o : MO) : Sto := fun q => if q = p then some o else M q
def del (M : Sto) (p : Addr) : Sto := fun q => if q = p then none else M q
theorem put_same {M : Sto} {p : Addr} {o : MO} : put M p o p = some o := by unfold put; rw [if_pos rfl]
theorem put_ne {M : Sto} {p q : Addr} {o : MO} (h : q ≠ p) : put M p o q = M q := by unfold put; rw [if_neg h]
theorem del_same {M : Sto} {p : Addr} : del M p p = none := by unfold del; rw [if_pos rfl]
theorem del_ne {M : Sto} {p q : Addr} (h : q ≠ p) : del M p q = M q := by unfold del; rw [if_neg h]
theorem put_put {M : Sto} {p : Addr} {o u : MO} : put (put M p o) p u = put M p u := by funext q; unfold put; split <;> rfl
theorem del_put {M : Sto} {p : Addr} {o : MO} (h : M p = none) : del (put M p o) p = M := by
  funext q
  by_cases e : q = p
  · rw [e, del_same, h]
  · rw [del_ne e, put_ne e]
theorem put_del {M : Sto} {p : Addr} {o : MO} (h : M p = some o) : put (del M p) p o = M := by
  funext q
  by_cases e : q = p
  · rw [e, put_same, h]
  · rw [put_ne e, del_ne e]
theorem put_comm {M : Sto} {p q : Addr} {o u : MO} (h : p ≠ q) : put (put M p o) q u = put (put M q u) p o := by
  funext r
  by_cases e : r = q
  · rw [e, put_same, put_ne (fun z => h z.symm), put_same]
  · rw [put_ne e]
    by_cases e2 : r = p
    · rw [e2, put_same, put_same]
    · rw [put_ne e2, put_ne e2, put_ne e]
abbrev En := List (Option S)

def RS (K : PySem.W.Frag) (D : Hp) (v : V) : S → Prop
  | .d x => Dq K D v x
  | .a p => v = .ref p
  | .scr ns => ∃ a, v = .ref a ∧ SqL K D a (ns.map V.int)
def RM (K : PySem.W.Frag) (D : Hp) (ho : HO) : MO → Prop
  | .lst xs => ∃ vs, ho = .lst vs ∧ Paired (RS K D) vs xs
theorem RS.mono {v : V} {s : S} (e : Same D D') (h : RS K D v s) : RS K D' v s := by
  cases s with
  | d x => exact Dq.mono e x v h
  | a p => exact h
  | scr ns => obtain ⟨a, q, r⟩ := h; exact ⟨a, q, Same.seq e r⟩
theorem Prd.mono {vs : List V} {ss : List S} (e : Same D D') (h : Paired (RS K D) vs ss) : Paired (RS K D') vs ss := Paired.mapP h fun _ _ r => RS.mono e r
theorem RM.mono {ho : HO} {o : MO} (e : Same D D') (h : RM K D ho o) : RM K D' ho o := by
  cases o with
  | lst xs => obtain ⟨vs, q, r⟩ := h; exact ⟨vs, q, Prd.mono e r⟩
theorem paired_of : ∀ {ds : List Dt} {vs : List V}, DqAll K D vs ds → Paired (RS K D) vs (ds.map S.d)
  | [], _, h => by cases h; exact .nil
  | d :: ds, _, h => by cases h with | cons h1 h2 => exact .cons h1 (paired_of h2)
theorem of_paired : ∀ {ds : List Dt} {vs : List V}, Paired (RS K D) vs (ds.map S.d) → DqAll K D vs ds
  | [], _, h => by cases h; exact .nil
  | d :: ds, _, h => by cases h with | cons h1 h2 => exact .cons h1 (of_paired h2)
theorem DqAll.length : ∀ {ds : List Dt} {vs : List V}, DqAll K D vs ds → vs.length = ds.length
  | [], _, h => by cases h; rfl
  | d :: ds, _, h => by cases h with | cons h1 h2 => simp [DqAll.length h2]
theorem DqAll.get : ∀ {ds : List Dt} {vs : List V} {i : Nat} {d : Dt}, DqAll K D vs ds → ds[i]? = some d → ∃ v, vs[i]? = some v ∧ Dq K D v d
  | [], _, _, _, _, e => by simp at e
  | d :: ds, _, 0, _, h, e => by cases h with | cons h1 h2 => simp at e; subst e; exact ⟨_, rfl, h1⟩
  | d :: ds, _, i + 1, _, h, e => by
    cases h with
    | cons h1 h2 =>
      obtain ⟨v, q, r⟩ := DqAll.get (i := i) h2 (by simpa using e)
      exact ⟨v, by simpa using q, r⟩
theorem DqAll.append : ∀ {ds es : List Dt} {vs us : List V}, DqAll K D vs ds → DqAll K D us es → DqAll K D (vs ++ us) (ds ++ es)
  | [], _, _, _, h, g => by cases h; exact g
  | d :: ds, _, _, _, h, g => by cases h with | cons h1 h2 => exact .cons h1 (DqAll.append h2 g)
theorem DqAll.take : ∀ {ds : List Dt} {vs : List V} (n : Nat), DqAll K D vs ds → DqAll K D (vs.take n) (ds.take n)
  | _, _, 0, _ => by simpa using DqAll.nil
  | [], _, n + 1, h => by cases h; exact .nil
  | d :: ds, _, n + 1, h => by cases h with | cons h1 h2 => exact .cons h1 (DqAll.take n h2)
theorem DqAll.drop : ∀ {ds : List Dt} {vs : List V} (n : Nat), DqAll K D vs ds → DqAll K D (vs.drop n) (ds.drop n)
  | _, _, 0, h => by simpa using h
  | [], _, n + 1, h => by cases h; exact .nil
  | d :: ds, _, n + 1, h => by cases h with | cons h1 h2 => exact DqAll.drop n h2
theorem DqAll.reverse : ∀ {ds : List Dt} {vs : List V}, DqAll K D vs ds → DqAll K D vs.reverse ds.reverse
  | [], _, h => by cases h; exact .nil
  | d :: ds, _, h => by
    cases h with
    | cons h1 h2 =>
      rw [List.reverse_cons, List.reverse_cons]
      exact DqAll.append (DqAll.reverse h2) (.cons h1 .nil)
theorem DqAll.ints : ∀ (ns : List Int), DqAll K D (ns.map V.int) (ns.map Dt.int)
  | [] => .nil
  | n :: ns => .cons (.int n) (DqAll.ints ns)
theorem DqAll.ints_eq : ∀ {ns : List Int} {vs : List V}, DqAll K D vs (ns.map Dt.int) → vs = ns.map V.int
  | [], _, h => by cases h; rfl
  | n :: ns, _, h => by
    cases h with
    | cons h1 h2 =>
      cases h1
      rw [DqAll.ints_eq h2]
      rfl
theorem DqAll.strs_eq : ∀ {ns : List Str} {vs : List V}, DqAll K D vs (ns.map Dt.str) → vs = ns.map V.str
  | [], _, h => by cases h; rfl
  | n :: ns, _, h => by
    cases h with
    | cons h1 h2 =>
      cases h1
      rw [DqAll.strs_eq h2]
      rfl
/-- all of some things as data -/
def allD : List S → Option (List Dt)
  | [] => some []
  | .d x :: r => match allD r with | some xs => some (x :: xs) | none => none
  | _ :: _ => none
theorem allD_map : ∀ ds : List Dt, allD (ds.map S.d) = some ds
  | [] => rfl
  | d :: ds => by show (match allD (ds.map S.d) with | some xs => some (d :: xs) | none => none) = _; rw [allD_map ds]
theorem allD_eq : ∀ {ss : List S} {ds : List Dt}, allD ss = some ds → ss = ds.map S.d
  | [], ds, h => by cases h; rfl
  | .d x :: r, ds, h => by
    unfold allD at h
    split at h
    · rename_i xs e
      cases h
      rw [allD_eq e]
      rfl
    · cases h
  | .a _ :: _, _, h => by cases h
  | .scr _ :: _, _, h => by cases h

/-! ### heap and store -/
structure Ok (K : PySem.W.Frag) (D : Hp) (M : Sto) (H : Hp) : Prop where
  s : Same D H
  m : ∀ p o, M p = some o → D p = none ∧ ∃ ho, H p = some ho ∧ RM K D ho o
variable {M : Sto} {p : Addr}
theorem Ok.dnone (ok : Ok K D M H) (hp : H p = none) : D p = none := ok.s.free hp
theorem Ok.mnone (ok : Ok K D M H) (hp : H p = none) : M p = none := by
  cases e : M p with
  | none => rfl
  | some o =>
    obtain ⟨_, ho, q, _⟩ := ok.m p o e
    rw [hp] at q
    cases q
theorem Ok.newD (ok : Ok K D M H) (hp : H p = none) (o : HO) : Ok K (upd D p o) M (upd H p o) := by
  have d0 := ok.dnone hp
  refine ⟨fun q u e => ?_, fun q u e => ?_⟩
  · by_cases hq : q = p
    · subst hq
      rw [upd_same] at e ⊢
      exact e
    · rw [upd_ne hq] at e ⊢
      exact ok.s q u e
  · obtain ⟨h1, ho, h2, h3⟩ := ok.m q u e
    have hq : q ≠ p := ne_of_none h2 hp
    exact ⟨by rw [upd_ne hq]; exact h1, ho, by rw [upd_ne hq]; exact h2, RM.mono (Same.new d0) h3⟩
theorem Ok.newM {ho : HO} {o : MO} (ok : Ok K D M H) (hp : H p = none) (r : RM K D ho o) : Ok K D (put M p o) (upd H p ho) := by
  have d0 := ok.dnone hp
  refine ⟨fun q u e => ?_, fun q u e => ?_⟩
  · rw [upd_ne (ne_of_none e d0)]
    exact ok.s q u e
  · by_cases hq : q = p
    · subst hq
      rw [put_same] at e
      cases e
      exact ⟨d0, ho, upd_same, r⟩
    · rw [put_ne hq] at e
      obtain ⟨h1, ho', h2, h3⟩ := ok.m q u e
      exact ⟨h1, ho', by rw [upd_ne hq]; exact h2, h3⟩
theorem Ok.set {ho : HO} {o u : MO} (ok : Ok K D M H) (hm : M p = some u) (r : RM K D ho o) : Ok K D (put M p o) (upd H p ho) := by
  have d0 := (ok.m p u hm).1
  refine ⟨fun q u e => ?_, fun q u e => ?_⟩
  · rw [upd_ne (ne_of_none e d0)]
    exact ok.s q u e
  · by_cases hq : q = p
    · subst hq
      rw [put_same] at e
      cases e
      exact ⟨d0, ho, upd_same, r⟩
    · rw [put_ne hq] at e
      obtain ⟨h1, ho', h2, h3⟩ := ok.m q u e
      exact ⟨h1, ho', by rw [upd_ne hq]; exact h2, h3⟩
theorem Ok.frz {xs : List Dt} (ok : Ok K D M H) (hm : M p = some (.lst (xs.map S.d))) : ∃ D', Same D D' ∧ Ok K D' (del M p) H ∧ Dq K D' (.ref p) (.lst xs) := by
  obtain ⟨d0, ho, hp, vs, rfl, hv⟩ := ok.m p _ hm
  have e : Same D (upd D p (.lst vs)) := Same.new d0
  refine ⟨upd D p (.lst vs), e, ⟨fun q u h => ?_, fun q u h => ?_⟩, .lst upd_same (DqAll.mono e _ _ (of_paired hv))⟩
  · by_cases hq : q = p
    · subst hq
      rw [upd_same] at h
      rw [hp]
      exact h
    · rw [upd_ne hq] at h
      exact ok.s q u h
  · have hq : q ≠ p := fun z => by
      subst z
      rw [del_same] at h
      cases h
    rw [del_ne hq] at h
    obtain ⟨h1, ho, h2, h3⟩ := ok.m q u h
    exact ⟨by rw [upd_ne hq]; exact h1, ho, h2, RM.mono e h3⟩
theorem Ok.lst {xs : List S} (ok : Ok K D M H) (hm : M p = some (.lst xs)) : ∃ vs, H p = some (.lst vs) ∧ Paired (RS K D) vs xs := by
  obtain ⟨_, ho, hp, vs, rfl, hv⟩ := ok.m p _ hm
  exact ⟨vs, hp, hv⟩

def RE (K : PySem.W.Frag) (D : Hp) (σ : L2.St) (γ : En) : Prop := σ.length = γ.length ∧ ∀ (i : Nat) (s : S), γ[i]? = some (some s) → ∃ v, σ[i]? = some (some v) ∧ RS K D v s
variable {σ : L2.St} {γ : En}
theorem RE.mono (e : Same D D') (h : RE K D σ γ) : RE K D' σ γ := ⟨h.1, fun i s q => let ⟨v, r, t⟩ := h.2 i s q; ⟨v, r, RS.mono e t⟩⟩
theorem RE.set {v : V} {s : S} (h : RE K D σ γ) (r : RS K D v s) (i : Nat) : RE K D (σ.set i (some v)) (γ.set i (some s)) := by
  refine ⟨by rw [List.length_set, List.length_set, h.1], fun j t e => ?_⟩
  by_cases hj : i = j
  · subst hj
    by_cases hl : i < γ.length
    · rw [List.getElem?_set_self hl] at e
      cases e
      exact ⟨v, by rw [List.getElem?_set_self (by rw [h.1]; exact hl)], r⟩
    · rw [List.getElem?_eq_none (by rw [List.length_set]; omega)] at e
      cases e
  · rw [List.getElem?_set_ne hj] at e ⊢
    exact h.2 j t e
theorem RE.unset (h : RE K D σ γ) (i : Nat) : RE K D (σ.set i none) (γ.set i none) := by
  refine ⟨by rw [List.length_set, List.length_set, h.1], fun j t e => ?_⟩
  by_cases hj : i = j
  · subst hj
    by_cases hl : i < γ.length
    · rw [List.getElem?_set_self hl] at e
      cases e
    · rw [List.getElem?_eq_none (by rw [List.length_set]; omega)] at e
      cases e
  · rw [List.getElem?_set_ne hj] at e ⊢
    exact h.2 j t e
def wipeE (γ : En) : List Nat → En
  | [] => γ
  | v :: vs => (wipeE γ vs).set v none
theorem RE.wipe (h : RE K D σ γ) : ∀ vs, RE K D (wipe σ vs) (wipeE γ vs)
  | [] => h
  | v :: vs => (RE.wipe h vs).unset v
def startE (N : List Str) (ss : List S) : En := ss.map some ++ List.replicate (N.length - ss.length) none
theorem RE.start {N : List Str} {vs : List V} {ss : List S} (h : Paired (RS K D) vs ss) : RE K D (L2.start N vs) (startE N ss) := by
  have hl := Paired.length h
  refine ⟨by unfold L2.start startE; simp [hl], fun i s e => ?_⟩
  unfold startE at e
  unfold L2.start
  by_cases hi : i < ss.length
  · rw [List.getElem?_append_left (by simpa using hi)] at e
    rw [List.getElem?_map] at e
    have hs : ss[i]? = some s := by
      cases q : ss[i]? with
      | none => rw [q] at e; cases e
      | some t => rw [q] at e; simp at e; rw [e]
    have hv : ∃ v, vs[i]? = some v ∧ RS K D v s := by
      clear e hl hi
      induction h generalizing i with
      | nil => simp at hs
      | cons r t ih =>
        cases i with
        | zero => simp at hs; subst hs; exact ⟨_, rfl, r⟩
        | succ i => simpa using ih i (by simpa using hs)
    obtain ⟨v, q, r⟩ := hv
    refine ⟨v, ?_, r⟩
    rw [List.getElem?_append_left (by rw [List.length_map]; exact (List.getElem?_eq_some_iff.mp q).1), List.getElem?_map, q]
    rfl
  · rw [List.getElem?_append_right (by simpa using hi)] at e
    have := List.mem_of_getElem? e
    rw [List.mem_replicate] at this
    cases this.2
end

/-! ### what is wanted, told of data -/
abbrev KS := S → Sto → Prop
abbrev WE := En → Sto → KS → Prop
abbrev WT := En → Sto → (Bool → Sto → Prop) → Prop
abbrev WA := En → Sto → (List S → Sto → Prop) → Prop
structure EndsW where
  nx : En → Sto → Prop
  rt : KS
  bk : En → Sto → Prop := fun _ _ => False
  ct : En → Sto → Prop := fun _ _ => False
abbrev WS := EndsW → En → Sto → Prop
abbrev WG := S → En → Sto → (En → Sto → Prop) → Prop
abbrev WGs := List S → En → Sto → (En → Sto → Prop) → Prop
abbrev WI := En → Sto → (List S → Sto → Prop) → Prop
abbrev WF := List S → Sto → KS → Prop

/-- behind a step: a wider heap, a store -/
def Bh (K : PySem.W.Frag) (D : Hp) (R : KS) (Q : VK) : Prop := ∀ v s D' M' H', Same D D' → Ok K D' M' H' → RS K D' v s → R s M' → Q v H'
def SE (K : PySem.W.Frag) (t : TE) (w : WE) : Prop := ∀ D σ γ M H (R : KS) (Q : VK), RE K D σ γ → Ok K D M H → w γ M R → Bh K D R Q → t σ H Q
def ST (K : PySem.W.Frag) (t : TT) (w : WT) : Prop := ∀ D σ γ M H (R : Bool → Sto → Prop) (Q : Bool → Hp → Prop), RE K D σ γ → Ok K D M H → w γ M R → (∀ b D' M' H', Same D D' → Ok K D' M' H' → R b M' → Q b H') → t σ H Q
def SA (K : PySem.W.Frag) (t : TA) (w : WA) : Prop := ∀ D σ γ M H (R : List S → Sto → Prop) (Q : List V → Hp → Prop), RE K D σ γ → Ok K D M H → w γ M R → (∀ vs ss D' M' H', Same D D' → Ok K D' M' H' → Paired (RS K D') vs ss → R ss M' → Q vs H') → t σ H Q
def ER (K : PySem.W.Frag) (D : Hp) (W : EndsW) (E : Ends) : Prop :=
  (∀ σ γ D' M H, Same D D' → Ok K D' M H → RE K D' σ γ → W.nx γ M → E.nx σ H) ∧ Bh K D W.rt E.rt ∧
  (∀ σ γ D' M H, Same D D' → Ok K D' M H → RE K D' σ γ → W.bk γ M → E.bk σ H) ∧ (∀ σ γ D' M H, Same D D' → Ok K D' M H → RE K D' σ γ → W.ct γ M → E.ct σ H)
def SS (K : PySem.W.Frag) (t : TS) (w : WS) : Prop := ∀ D σ γ M H (W : EndsW) (E : Ends), RE K D σ γ → Ok K D M H → w W γ M → ER K D W E → t E σ H
def SG (K : PySem.W.Frag) (t : TG) (w : WG) : Prop := ∀ D σ γ M H v s (R : En → Sto → Prop) (Q : L2.St → Hp → Prop), RE K D σ γ → Ok K D M H → RS K D v s → w s γ M R → (∀ σ' γ' D' M' H', Same D D' → Ok K D' M' H' → RE K D' σ' γ' → R γ' M' → Q σ' H') → t v σ H Q
def SGs (K : PySem.W.Frag) (t : TGs) (w : WGs) : Prop := ∀ D σ γ M H vs ss (R : En → Sto → Prop) (Q : L2.St → Hp → Prop), RE K D σ γ → Ok K D M H → Paired (RS K D) vs ss → w ss γ M R → (∀ σ' γ' D' M' H', Same D D' → Ok K D' M' H' → RE K D' σ' γ' → R γ' M' → Q σ' H') → t vs σ H Q
/-- an iterator that gives these things, whatever is laid meanwhile -/
structure Itw (K : PySem.W.Frag) (D : Hp) (J : It) (xs : List S) : Prop where
  go : ∀ i H, i < xs.length → Same D H → J.go i H
  stop : ∀ H, Same D H → J.stop xs.length H
  yld : ∀ i H x H' D1 M1, i < xs.length → Same D D1 → Ok K D1 M1 H → J.yld i H x H' → ∃ s D2, xs[i]? = some s ∧ Same D1 D2 ∧ Ok K D2 M1 H' ∧ RS K D2 x s
def SI (K : PySem.W.Frag) (t : TI) (w : WI) : Prop := ∀ D σ γ M H (R : List S → Sto → Prop) (Q : It → Hp → Prop), RE K D σ γ → Ok K D M H → w γ M R → (∀ J xs D' M' H', Same D D' → Ok K D' M' H' → Itw K D' J xs → R xs M' → Q J H') → t σ H Q
def SR (K : PySem.W.Frag) (r : R2) (w : S → S → Sto → KS → Prop) : Prop := ∀ D M H x y s u (R : KS) (Q : VK), Ok K D M H → RS K D x s → RS K D y u → w s u M R → Bh K D R Q → r x y H Q
def SC (K : PySem.W.Frag) (r : List V → Hp → VK → Prop) (w : List S → Sto → KS → Prop) : Prop := ∀ D M H vs ss (R : KS) (Q : VK), Ok K D M H → Paired (RS K D) vs ss → w ss M R → Bh K D R Q → r vs H Q

/-! what a thing must be -/
def onBl (s : S) (P : Bool → Prop) : Prop := match s with | .d (.bl b) => P b | _ => False
def onTup (s : S) (P : List Dt → Prop) : Prop := match s with | .d (.tup ds) => P ds | _ => False
def onD (s : S) (P : Dt → Prop) : Prop := match s with | .d x => P x | _ => False
def onAll (ss : List S) (P : List Dt → Prop) : Prop := match allD ss with | some ds => P ds | none => False
theorem onBl_inv : ∀ {s : S} {P : Bool → Prop}, onBl s P → ∃ b, s = .d (.bl b) ∧ P b
  | .d (.bl b), _, h => ⟨b, rfl, h⟩
theorem onTup_inv : ∀ {s : S} {P : List Dt → Prop}, onTup s P → ∃ ds, s = .d (.tup ds) ∧ P ds
  | .d (.tup ds), _, h => ⟨ds, rfl, h⟩
theorem onD_inv : ∀ {s : S} {P : Dt → Prop}, onD s P → ∃ x, s = .d x ∧ P x
  | .d x, _, h => ⟨x, rfl, h⟩
theorem onAll_inv {ss : List S} {P : List Dt → Prop} (h : onAll ss P) : ∃ ds, ss = ds.map S.d ∧ P ds := by
  unfold onAll at h
  split at h
  · rename_i ds e
    exact ⟨ds, allD_eq e, h⟩
  · exact h.elim
section
variable {K : PySem.W.Frag}
theorem Bh.at {D D1 : Hp} {R : KS} {Q : VK} (e : Same D D1) (h : Bh K D R Q) : Bh K D1 R Q := fun v s D' M' H' e1 => h v s D' M' H' (e.trans e1)
theorem ER.at {D D1 : Hp} {W : EndsW} {E : Ends} (e : Same D D1) (h : ER K D W E) : ER K D1 W E :=
  ⟨fun σ γ D' M H e1 => h.1 σ γ D' M H (e.trans e1), h.2.1.at e, fun σ γ D' M H e1 => h.2.2.1 σ γ D' M H (e.trans e1), fun σ γ D' M H e1 => h.2.2.2 σ γ D' M H (e.trans e1)⟩

/-! ### expressions -/
def wVar (i : Nat) : WE := fun γ M R => match γ[i]? with | some (some s) => R s M | _ => False
theorem se_var (i : Nat) : SE K (tVar i) (wVar i) := by
  intro D σ γ M H R Q e ok h k
  unfold wVar at h
  split at h
  · rename_i s hs
    obtain ⟨v, q, r⟩ := e.2 i s hs
    exact ⟨v, q, k v s D M H (Same.refl D) ok r h⟩
  · exact h.elim
def wC (x : Dt) : WE := fun _ M R => R (.d x) M
theorem se_c {v : V} {x : Dt} (h : ∀ D, Dq K D v x) : SE K (tC v) (wC x) := fun D σ γ M H R Q e ok q k => k v (.d x) D M H (Same.refl D) ok (h D) q
def wOp (r : S → S → Sto → KS → Prop) (wa wb : WE) : WE := fun γ M R => wa γ M fun x M1 => wb γ M1 fun y M2 => r x y M2 R
theorem se_op {r : R2} {wr} {ta tb : TE} {wa wb : WE} (hr : SR K r wr) (ha : SE K ta wa) (hb : SE K tb wb) : SE K (tOp r ta tb) (wOp wr wa wb) := fun D σ γ M H R Q e ok h k =>
  ha D σ γ M H _ _ e ok h fun x s D1 M1 H1 s1 ok1 rx q => hb D1 σ γ M1 H1 _ _ (e.mono s1) ok1 q fun y u D2 M2 H2 s2 ok2 ry q2 =>
    hr D2 M2 H2 x y s u R Q ok2 (rx.mono s2) ry q2 (k.at (s1.trans s2))
def wTest (wa : WE) : WT := fun γ M R => wa γ M fun x M1 => onBl x fun b => R b M1
theorem st_tt {ta : TE} {wa : WE} (ha : SE K ta wa) : ST K (fun σ H Q => ta σ H fun x H' => ∃ k, x = .bl k ∧ Q k H') (wTest wa) := fun D σ γ M H R Q e ok h k =>
  ha D σ γ M H _ _ e ok h fun x s D1 M1 H1 s1 ok1 rx q => by
    obtain ⟨b, rfl, q⟩ := onBl_inv q
    cases rx
    exact ⟨b, rfl, k b D1 M1 H1 s1 ok1 q⟩
def wAnd (w u : WT) : WT := fun γ M R => w γ M fun c M1 => if c = true then u γ M1 R else R false M1
def wOr (w u : WT) : WT := fun γ M R => w γ M fun c M1 => if c = true then R true M1 else u γ M1 R
def wNot (w : WT) : WT := fun γ M R => w γ M fun c M1 => R (!c) M1
theorem st_and {t u : TT} {w v : WT} (ht : ST K t w) (hu : ST K u v) : ST K (tAnd t u) (wAnd w v) := fun D σ γ M H R Q e ok h k =>
  ht D σ γ M H _ _ e ok h fun b D1 M1 H1 s1 ok1 q => by
    cases b with
    | true => exact hu D1 σ γ M1 H1 R Q (e.mono s1) ok1 q fun b' D2 M2 H2 s2 => k b' D2 M2 H2 (s1.trans s2)
    | false => exact k false D1 M1 H1 s1 ok1 q
theorem st_or {t u : TT} {w v : WT} (ht : ST K t w) (hu : ST K u v) : ST K (tOr t u) (wOr w v) := fun D σ γ M H R Q e ok h k =>
  ht D σ γ M H _ _ e ok h fun b D1 M1 H1 s1 ok1 q => by
    cases b with
    | false => exact hu D1 σ γ M1 H1 R Q (e.mono s1) ok1 q fun b' D2 M2 H2 s2 => k b' D2 M2 H2 (s1.trans s2)
    | true => exact k true D1 M1 H1 s1 ok1 q
theorem st_not {t : TT} {w : WT} (ht : ST K t w) : ST K (tNot t) (wNot w) := fun D σ γ M H R Q e ok h k =>
  ht D σ γ M H _ _ e ok h fun b D1 M1 H1 s1 ok1 q => k (!b) D1 M1 H1 s1 ok1 q
def wAndV (wa wb : WE) : WE := fun γ M R => wa γ M fun x M1 => onBl x fun c => if c = true then wb γ M1 R else R (.d (.bl false)) M1
def wOrV (wa wb : WE) : WE := fun γ M R => wa γ M fun x M1 => onBl x fun c => if c = true then R (.d (.bl true)) M1 else wb γ M1 R
def wNotV (wa : WE) : WE := fun γ M R => wa γ M fun x M1 => onBl x fun c => R (.d (.bl (!c))) M1
theorem se_andV {ta tb : TE} {wa wb : WE} (ha : SE K ta wa) (hb : SE K tb wb) : SE K (tAndV ta tb) (wAndV wa wb) := fun D σ γ M H R Q e ok h k =>
  ha D σ γ M H _ _ e ok h fun x s D1 M1 H1 s1 ok1 rx q => by
    obtain ⟨b, rfl, q⟩ := onBl_inv q
    cases rx
    cases b with
    | true => exact ⟨true, rfl, hb D1 σ γ M1 H1 R Q (e.mono s1) ok1 q (k.at s1)⟩
    | false => exact ⟨false, rfl, k _ (.d (.bl false)) D1 M1 H1 s1 ok1 (.bl false) q⟩
theorem se_orV {ta tb : TE} {wa wb : WE} (ha : SE K ta wa) (hb : SE K tb wb) : SE K (tOrV ta tb) (wOrV wa wb) := fun D σ γ M H R Q e ok h k =>
  ha D σ γ M H _ _ e ok h fun x s D1 M1 H1 s1 ok1 rx q => by
    obtain ⟨b, rfl, q⟩ := onBl_inv q
    cases rx
    cases b with
    | false => exact ⟨false, rfl, hb D1 σ γ M1 H1 R Q (e.mono s1) ok1 q (k.at s1)⟩
    | true => exact ⟨true, rfl, k _ (.d (.bl true)) D1 M1 H1 s1 ok1 (.bl true) q⟩
theorem se_notV {ta : TE} {wa : WE} (ha : SE K ta wa) : SE K (tNotV ta) (wNotV wa) := fun D σ γ M H R Q e ok h k =>
  ha D σ γ M H _ _ e ok h fun x s D1 M1 H1 s1 ok1 rx q => by
    obtain ⟨b, rfl, q⟩ := onBl_inv q
    cases rx
    exact ⟨b, rfl, k _ (.d (.bl (!b))) D1 M1 H1 s1 ok1 (.bl _) q⟩
def wIfE (w : WT) (wa wb : WE) : WE := fun γ M R => w γ M fun c M1 => if c = true then wa γ M1 R else wb γ M1 R
theorem se_if {t : TT} {ta tb : TE} {w : WT} {wa wb : WE} (ht : ST K t w) (ha : SE K ta wa) (hb : SE K tb wb) : SE K (tIf t ta tb) (wIfE w wa wb) := fun D σ γ M H R Q e ok h k =>
  ht D σ γ M H _ _ e ok h fun b D1 M1 H1 s1 ok1 q => by
    cases b with
    | true => exact ha D1 σ γ M1 H1 R Q (e.mono s1) ok1 q (k.at s1)
    | false => exact hb D1 σ γ M1 H1 R Q (e.mono s1) ok1 q (k.at s1)
/-! arguments, displays, calls -/
def wNil : WA := fun _ M R => R [] M
def wCons (wa : WE) (wr : WA) : WA := fun γ M R => wa γ M fun x M1 => wr γ M1 fun xs M2 => R (x :: xs) M2
theorem sa_nil : SA K tNil wNil := fun D σ γ M H R Q e ok h k => k [] [] D M H (Same.refl D) ok .nil h
theorem sa_cons {ta : TE} {tr : TA} {wa : WE} {wr : WA} (ha : SE K ta wa) (hr : SA K tr wr) : SA K (tCons ta tr) (wCons wa wr) := fun D σ γ M H R Q e ok h k =>
  ha D σ γ M H _ _ e ok h fun x s D1 M1 H1 s1 ok1 rx q => hr D1 σ γ M1 H1 _ _ (e.mono s1) ok1 q fun vs ss D2 M2 H2 s2 ok2 rs q2 =>
    k (x :: vs) (s :: ss) D2 M2 H2 (s1.trans s2) ok2 (.cons (rx.mono s2) rs) q2
/-- a tuple of data -/
def wTup (wa : WA) : WE := fun γ M R => wa γ M fun ss M1 => onAll ss fun ds => ds.length ≤ sizeLine ∧ R (.d (.tup ds)) M1
theorem se_tup {ta : TA} {wa : WA} (ha : SA K ta wa) : SE K (tTup ta) (wTup wa) := fun D σ γ M H R Q e ok h k =>
  ha D σ γ M H _ _ e ok h fun vs ss D1 M1 H1 s1 ok1 rs q => by
    obtain ⟨ds, es, q2, q3⟩ := onAll_inv q
    subst es
    have hq := of_paired rs
    refine ⟨by rw [hq.length]; exact q2, fun p hp => k _ (.d (.tup ds)) _ M1 _ (s1.trans (Same.new (ok1.dnone hp))) (ok1.newD hp _) ?_ q3⟩
    exact .tup (.inl (.inl upd_same)) (DqAll.mono (Same.new (ok1.dnone hp)) _ _ hq)
/-- a list as data; a list that is to be changed -/
def wLst (wa : WA) : WE := fun γ M R => wa γ M fun ss M1 => onAll ss fun ds => ds.length ≤ sizeLine ∧ R (.d (.lst ds)) M1
theorem se_lst {ta : TA} {wa : WA} (ha : SA K ta wa) : SE K (tLst ta) (wLst wa) := fun D σ γ M H R Q e ok h k =>
  ha D σ γ M H _ _ e ok h fun vs ss D1 M1 H1 s1 ok1 rs q => by
    obtain ⟨ds, es, q2, q3⟩ := onAll_inv q
    subst es
    have hq := of_paired rs
    refine ⟨by rw [hq.length]; exact q2, fun p hp => k _ (.d (.lst ds)) _ M1 _ (s1.trans (Same.new (ok1.dnone hp))) (ok1.newD hp _) ?_ q3⟩
    exact .lst upd_same (DqAll.mono (Same.new (ok1.dnone hp)) _ _ hq)
def wLstM (wa : WA) : WE := fun γ M R => wa γ M fun ss M1 => ss.length ≤ sizeLine ∧ ∀ p, M1 p = none → R (.a p) (put M1 p (.lst ss))
theorem se_lstM {ta : TA} {wa : WA} (ha : SA K ta wa) : SE K (tLst ta) (wLstM wa) := fun D σ γ M H R Q e ok h k =>
  ha D σ γ M H _ _ e ok h fun vs ss D1 M1 H1 s1 ok1 rs q => by
    refine ⟨by rw [Paired.length rs]; exact q.1, fun p hp => k _ (.a p) D1 _ _ s1 (ok1.newM hp ⟨vs, rfl, rs⟩) rfl (q.2 p (ok1.mnone hp))⟩
def wCB (r : List S → Sto → KS → Prop) (wa : WA) : WE := fun γ M R => wa γ M fun ss M1 => r ss M1 R
theorem se_cb {r : List V → Hp → VK → Prop} {wr} {ta : TA} {wa : WA} (hr : SC K r wr) (ha : SA K ta wa) : SE K (tCB r ta) (wCB wr wa) := fun D σ γ M H R Q e ok h k =>
  ha D σ γ M H _ _ e ok h fun vs ss D1 M1 H1 s1 ok1 rs q => hr D1 M1 H1 vs ss R Q ok1 rs q (k.at s1)
/-- what a def promises, told of data -/
def spW (K : PySem.W.Frag) (wf : WF) : Sp := fun vs H Q _ => ∃ D M ss R, Ok K D M H ∧ Paired (RS K D) vs ss ∧ wf ss M R ∧ Bh K D R Q
theorem se_call {wf : WF} {E : XK} {ta : TA} {wa : WA} (ha : SA K ta wa) : SE K (tCall (spW K wf) [] E ta) (wCB wf wa) := fun D σ γ M H R Q e ok h k =>
  ha D σ γ M H _ _ e ok h fun vs ss D1 M1 H1 s1 ok1 rs q => ⟨D1, M1, ss, R, ok1, by rw [List.append_nil]; exact rs, q, k.at s1⟩
/-- a list that stood to be changed is from here on data -/
def frzS (s : S) (M1 : Sto) (R : KS) : Prop := match s with | .a p => ∃ ds : List Dt, M1 p = some (.lst (ds.map S.d)) ∧ R (.d (.lst ds)) (del M1 p) | .d x => R (.d x) M1 | .scr ns => R (.scr ns) M1
def wFz (wa : WE) : WE := fun γ M R => wa γ M fun s M1 => frzS s M1 R
theorem se_fz {ta : TE} {wa : WE} (ha : SE K ta wa) : SE K ta (wFz wa) := fun D σ γ M H R Q e ok h k =>
  ha D σ γ M H _ _ e ok h fun x s D1 M1 H1 s1 ok1 rx q => by
    cases s with
    | d y => exact k x _ D1 M1 H1 s1 ok1 rx q
    | scr y => exact k x _ D1 M1 H1 s1 ok1 rx q
    | a p =>
      obtain ⟨ds, hm, q⟩ := q
      obtain ⟨D2, s2, ok2, r2⟩ := ok1.frz hm
      cases (show x = V.ref p from rx)
      exact k _ (.d (.lst ds)) D2 _ H1 (s1.trans s2) ok2 r2 q

/-! ### statements -/
def wNext : WS := fun W γ M => W.nx γ M
def wSeq (a b : WS) : WS := fun W γ M => a { W with nx := b W } γ M
def wIf (c : WT) (a b : WS) : WS := fun W γ M => c γ M fun k M1 => if k = true then a W γ M1 else b W γ M1
def wRet (we : WE) : WS := fun W γ M => we γ M W.rt
def wRetN : WS := fun W _ M => W.rt (.d .non) M
def wDrop (we : WE) : WS := fun W γ M => we γ M fun _ M1 => W.nx γ M1
def wAsg (we : WE) (g : WG) : WS := fun W γ M => we γ M fun s M1 => g s γ M1 W.nx
def wBreak : WS := fun W γ M => W.bk γ M
def wCont : WS := fun W γ M => W.ct γ M
theorem ss_next : SS K tNext wNext := fun D σ γ M H W E e ok h k => k.1 σ γ D M H (Same.refl D) ok e h
theorem ss_break : SS K tBreak wBreak := fun D σ γ M H W E e ok h k => k.2.2.1 σ γ D M H (Same.refl D) ok e h
theorem ss_cont : SS K tCont wCont := fun D σ γ M H W E e ok h k => k.2.2.2 σ γ D M H (Same.refl D) ok e h
theorem ss_seq {t u : TS} {a b : WS} (ht : SS K t a) (hu : SS K u b) : SS K (tSeq t u) (wSeq a b) := fun D σ γ M H W E e ok h k =>
  ht D σ γ M H _ _ e ok h ⟨fun σ' γ' D' M' H' s ok' e' q => hu D' σ' γ' M' H' W E e' ok' q (k.at s), k.2.1, k.2.2.1, k.2.2.2⟩
theorem ss_if {c : TT} {t u : TS} {w : WT} {a b : WS} (hc : ST K c w) (ht : SS K t a) (hu : SS K u b) : SS K (tIfS c t u) (wIf w a b) := fun D σ γ M H W E e ok h k =>
  hc D σ γ M H _ _ e ok h fun x D1 M1 H1 s1 ok1 q => by
    cases x with
    | true => exact ht D1 σ γ M1 H1 W E (e.mono s1) ok1 q (k.at s1)
    | false => exact hu D1 σ γ M1 H1 W E (e.mono s1) ok1 q (k.at s1)
theorem ss_ret {t : TE} {w : WE} (h : SE K t w) : SS K (tRet t) (wRet w) := fun D σ γ M H W E e ok q k => h D σ γ M H _ _ e ok q k.2.1
theorem ss_retN : SS K tRetN wRetN := fun D σ γ M H W E e ok q k => k.2.1 .non (.d .non) D M H (Same.refl D) ok .non q
theorem ss_drop {t : TE} {w : WE} (h : SE K t w) : SS K (tDrop t) (wDrop w) := fun D σ γ M H W E e ok q k =>
  h D σ γ M H _ _ e ok q fun v s D1 M1 H1 s1 ok1 r q1 => k.1 σ γ D1 M1 H1 s1 ok1 (e.mono s1) q1
theorem ss_asg {t : TE} {w : WE} {g : TG} {wg : WG} (h : SE K t w) (hg : SG K g wg) : SS K (tAsg t g) (wAsg w wg) := fun D σ γ M H W E e ok q k =>
  h D σ γ M H _ _ e ok q fun v s D1 M1 H1 s1 ok1 r q1 => hg D1 σ γ M1 H1 v s _ _ (e.mono s1) ok1 r q1 fun σ' γ' D' M' H' s2 ok2 e2 q2 => k.1 σ' γ' D' M' H' (s1.trans s2) ok2 e2 q2
/-! targets -/
def wName (i : Nat) : WG := fun s γ M R => R (γ.set i (some s)) M
theorem sg_name (i : Nat) : SG K (gName i) (wName i) := fun D σ γ M H v s R Q e ok r q k => k _ _ D M H (Same.refl D) ok (e.set r i) q
def wgNil : WGs := fun ss γ M R => match ss with | [] => R γ M | _ => False
def wgCons (g : WG) (u : WGs) : WGs := fun ss γ M R => match ss with | s :: r => g s γ M fun γ' M' => u r γ' M' R | [] => False
theorem sgs_nil : SGs K gNil wgNil := fun D σ γ M H vs ss R Q e ok r q k => by
  cases r with
  | nil => exact ⟨rfl, k σ γ D M H (Same.refl D) ok e q⟩
  | cons => exact q.elim
theorem sgs_cons {g : TG} {u : TGs} {wg : WG} {wu : WGs} (hg : SG K g wg) (hu : SGs K u wu) : SGs K (gCons g u) (wgCons wg wu) := fun D σ γ M H vs ss R Q e ok r q k => by
  cases r with
  | nil => exact q.elim
  | cons r1 r2 =>
    refine ⟨_, _, rfl, hg D σ γ M H _ _ _ _ e ok r1 q fun σ' γ' D' M' H' s1 ok1 e1 q1 => ?_⟩
    exact hu D' σ' γ' M' H' _ _ R Q e1 ok1 (Prd.mono s1 r2) q1 fun σ2 γ2 D2 M2 H2 s2 => k σ2 γ2 D2 M2 H2 (s1.trans s2)
def wgTup (n : Nat) (u : WGs) : WG := fun s γ M R => onTup s fun ds => ds.length = n ∧ u (ds.map S.d) γ M R
theorem sg_tup {n : Nat} {u : TGs} {wu : WGs} (hu : SGs K u wu) : SG K (gTup K n u) (wgTup n wu) := fun D σ γ M H v s R Q e ok r q k => by
  obtain ⟨ds, rfl, q⟩ := onTup_inv q
  cases r with
  | tup h1 h2 => exact ⟨_, _, rfl, Same.sqt ok.s h1, by rw [h2.length]; exact q.1, hu D σ γ M H _ _ R Q e ok (paired_of h2) q.2 k⟩
/-! several names at once, from written values -/
def wPar (i j : Nat) (wa : WA) : WS := fun W γ M => wa γ M fun ss M1 => match ss with | [s, u] => W.nx ((γ.set i (some s)).set j (some u)) M1 | _ => False
theorem ss_par {i j : Nat} {ta : TA} {wa : WA} (ha : SA K ta wa) : SS K (tPar i j ta) (wPar i j wa) := fun D σ γ M H W E e ok h k =>
  ha D σ γ M H _ _ e ok h fun vs ss D1 M1 H1 s1 ok1 rs q => by
    cases rs with
    | nil => exact q.elim
    | cons r1 rs =>
      cases rs with
      | nil => exact q.elim
      | cons r2 rs =>
        cases rs with
        | nil => exact ⟨_, _, rfl, k.1 _ _ D1 M1 H1 s1 ok1 (((e.mono s1).set r1 i).set r2 j) q⟩
        | cons => exact q.elim
def wPar3 (i j l : Nat) (wa : WA) : WS := fun W γ M => wa γ M fun ss M1 => match ss with | [s, u, x] => W.nx (((γ.set i (some s)).set j (some u)).set l (some x)) M1 | _ => False
theorem ss_par3 {i j l : Nat} {ta : TA} {wa : WA} (ha : SA K ta wa) : SS K (tPar3 i j l ta) (wPar3 i j l wa) := fun D σ γ M H W E e ok h k =>
  ha D σ γ M H _ _ e ok h fun vs ss D1 M1 H1 s1 ok1 rs q => by
    cases rs with
    | nil => exact q.elim
    | cons r1 rs =>
      cases rs with
      | nil => exact q.elim
      | cons r2 rs =>
        cases rs with
        | nil => exact q.elim
        | cons r3 rs =>
          cases rs with
          | nil => exact ⟨_, _, _, rfl, k.1 _ _ D1 M1 H1 s1 ok1 ((((e.mono s1).set r1 i).set r2 j).set r3 l) q⟩
          | cons => exact q.elim
/-! x op= e -/
def wAug (i : Nat) (r : S → S → Sto → KS → Prop) (we : WE) : WS := fun W γ M => match γ[i]? with | some (some s) => we γ M fun u M1 => r s u M1 fun x M2 => W.nx (γ.set i (some x)) M2 | _ => False
theorem ss_aug {i : Nat} {te : TE} {ti : TIp} {we : WE} {wr} (he : SE K te we) (hr : SR K ti wr) : SS K (tAug i te ti) (wAug i wr we) := fun D σ γ M H W E e ok h k => by
  unfold wAug at h
  split at h
  · rename_i s hs
    obtain ⟨v, q, r⟩ := e.2 i s hs
    refine ⟨v, q, he D σ γ M H _ _ e ok h fun y u D1 M1 H1 s1 ok1 ry q1 => ?_⟩
    exact hr D1 M1 H1 v y s u _ _ ok1 (r.mono s1) ry q1 fun z x D2 M2 H2 s2 ok2 rz q2 => k.1 _ _ D2 M2 H2 (s1.trans s2) ok2 (((e.mono s1).mono s2).set rz i) q2
  · exact h.elim
/-! while, for -/
def wWhile (c : WT) (b : WS) : WS := fun W γ M => ∃ I : Nat → En → Sto → Prop, (∃ m, I m γ M) ∧ ∀ m γ M, I m γ M →
  c γ M fun k M1 => if k = true then b { W with nx := fun γ' M' => ∃ m', m' < m ∧ I m' γ' M', ct := fun γ' M' => ∃ m', m' < m ∧ I m' γ' M', bk := W.nx } γ M1 else W.nx γ M1
theorem ss_while {c : TT} {t : TS} {w : WT} {b : WS} (hc : ST K c w) (ht : SS K t b) : SS K (tWhile c t) (wWhile w b) := fun D σ γ M H W E e ok h k => by
  obtain ⟨I, ⟨m0, h0⟩, hs⟩ := h
  refine ⟨fun m σ' H' => ∃ D' γ' M', Same D D' ∧ RE K D' σ' γ' ∧ Ok K D' M' H' ∧ I m γ' M', ⟨m0, D, γ, M, Same.refl D, e, ok, h0⟩, ?_⟩
  rintro m σ1 H1 ⟨D1, γ1, M1, s1, e1, ok1, i1⟩
  refine hc D1 σ1 γ1 M1 H1 _ _ e1 ok1 (hs m γ1 M1 i1) fun x D2 M2 H2 s2 ok2 q => ?_
  cases x with
  | true =>
    refine ⟨fun σ' H' => ∃ m', m' < m ∧ ∃ D' γ' M', Same D D' ∧ RE K D' σ' γ' ∧ Ok K D' M' H' ∧ I m' γ' M', fun σ' H' h => h, ?_⟩
    refine ht D2 σ1 γ1 M2 H2 _ _ (e1.mono s2) ok2 q ⟨fun σ' γ' D' M' H' s3 ok3 e3 ⟨m', hm, i3⟩ => ⟨m', hm, D', γ', M', (s1.trans s2).trans s3, e3, ok3, i3⟩, k.2.1.at (s1.trans s2),
      (k.at (s1.trans s2)).1, fun σ' γ' D' M' H' s3 ok3 e3 ⟨m', hm, i3⟩ => ⟨m', hm, D', γ', M', (s1.trans s2).trans s3, e3, ok3, i3⟩⟩
  | false => exact k.1 σ1 γ1 D2 M2 H2 (s1.trans s2) ok2 (e1.mono s2) q
def wFor (wi : WI) (g : WG) (b : WS) : WS := fun W γ M => wi γ M fun xs M1 => ∃ I : Nat → En → Sto → Prop, I 0 γ M1 ∧ (∀ i x γ M, xs[i]? = some x → I i γ M → g x γ M fun γ2 M2 => b { W with nx := I (i + 1), ct := I (i + 1), bk := W.nx } γ2 M2) ∧ ∀ γ M, I xs.length γ M → W.nx γ M
theorem ss_for {ti : TI} {g : TG} {t : TS} {wi : WI} {wg : WG} {b : WS} (hi : SI K ti wi) (hg : SG K g wg) (ht : SS K t b) : SS K (tFor ti g t) (wFor wi wg b) := fun D σ γ M H W E e ok h k =>
  hi D σ γ M H _ _ e ok h fun J xs D0 M0 H0 s0 ok0 w ⟨I, h0, hs, hd⟩ => by
    refine ⟨fun i m σ' H' => m = xs.length - i ∧ i ≤ xs.length ∧ ∃ D' γ' M', Same D0 D' ∧ RE K D' σ' γ' ∧ Ok K D' M' H' ∧ I i γ' M', ⟨xs.length, by simp, Nat.zero_le _, D0, γ, M0, Same.refl _, e.mono s0, ok0, h0⟩, ?_⟩
    rintro i m σ1 H1 ⟨rfl, hi, D1, γ1, M1, s1, e1, ok1, i1⟩
    by_cases hlt : i < xs.length
    · refine .inr ⟨w.go i H1 hlt (s1.trans ok1.s), fun σ' H' => i + 1 ≤ xs.length ∧ ∃ D' γ' M', Same D0 D' ∧ RE K D' σ' γ' ∧ Ok K D' M' H' ∧ I (i + 1) γ' M', fun σ' H' h => ⟨xs.length - (i + 1), by omega, rfl, h.1, h.2⟩, fun x H' y => ?_⟩
      obtain ⟨s, D2, hx, s2, ok2, rx⟩ := w.yld i H1 x H' D1 M1 hlt s1 ok1 y
      refine hg D2 σ1 γ1 M1 H' x s _ _ (e1.mono s2) ok2 rx (hs i s γ1 M1 hx i1) fun σ3 γ3 D3 M3 H3 s3 ok3 e3 q3 => ?_
      have s03 := s0.trans ((s1.trans s2).trans s3)
      refine ht D3 σ3 γ3 M3 H3 _ _ e3 ok3 q3 ⟨fun σ' γ' D' M' H' s4 ok4 e4 q4 => ⟨hlt, D', γ', M', ((s1.trans s2).trans s3).trans s4, e4, ok4, q4⟩, k.2.1.at s03, (k.at s03).1, fun σ' γ' D' M' H' s4 ok4 e4 q4 => ⟨hlt, D', γ', M', ((s1.trans s2).trans s3).trans s4, e4, ok4, q4⟩⟩
    · have ei : i = xs.length := by omega
      subst ei
      exact .inl ⟨w.stop H1 (s1.trans ok1.s), k.1 σ1 γ1 D1 M1 H1 (s0.trans s1) ok1 e1 (hd γ1 M1 i1)⟩
/-! list comprehensions: the new list stands at p of the store while it grows -/
def wYes : WT := fun _ M R => R true M
theorem st_yes : ST K tYes wYes := fun D σ γ M H R Q e ok h k => k true D M H (Same.refl D) ok h
theorem wipe_idem {σ : L2.St} : ∀ {vs ws : List Nat}, (∀ v ∈ vs, v ∈ ws) → wipe (wipe σ ws) vs = wipe σ ws
  | [], _, _ => rfl
  | v :: vs, ws, h => by
    show (wipe (wipe σ ws) vs).set v none = wipe σ ws
    rw [wipe_idem fun x hx => h x (List.mem_cons_of_mem _ hx)]
    apply List.ext_getElem?
    intro j
    by_cases hj : v = j
    · subst hj
      by_cases hl : v < (wipe σ ws).length
      · rw [List.getElem?_set_self hl]
        cases e : (wipe σ ws)[v]? with
        | none => rw [List.getElem?_eq_none_iff] at e; omega
        | some o =>
          cases o with
          | none => rfl
          | some x => exact absurd (h v List.mem_cons_self) (wipe_some e).2
      · rw [List.getElem?_eq_none (by rw [List.length_set]; omega), List.getElem?_eq_none (by omega)]
    · rw [List.getElem?_set_ne hj]
theorem set_none_set {σ : L2.St} {i : Nat} {x : Option V} : (σ.set i x).set i none = σ.set i none := by rw [List.set_set]
theorem wipe_set {σ : L2.St} {i : Nat} {x : Option V} : ∀ {vs : List Nat}, i ∈ vs → wipe (σ.set i x) vs = wipe σ vs
  | [], h => by cases h
  | v :: vs, h => by
    show (wipe (σ.set i x) vs).set v none = (wipe σ vs).set v none
    by_cases hm : i ∈ vs
    · rw [wipe_set hm]
    · have hv : i = v := by
        rcases List.mem_cons.mp h with e | e
        · exact e
        · exact absurd e hm
      subst hv
      have key : ∀ ws : List Nat, i ∉ ws → wipe (σ.set i x) ws = (wipe σ ws).set i x := by
        intro ws
        induction ws with
        | nil => intro _; rfl
        | cons w ws ih =>
          intro hw
          have h1 : i ≠ w := fun z => hw (by rw [z]; exact List.mem_cons_self)
          show (wipe (σ.set i x) ws).set w none = ((wipe σ ws).set w none).set i x
          rw [ih fun z => hw (List.mem_cons_of_mem _ z), List.set_comm _ _ h1]
      rw [key vs hm, List.set_set]
/-- a target that stores the names vs alone -/
def Keeps (g : TG) (vs : List Nat) : Prop := ∀ v σ H Q, g v σ H Q → g v σ H fun σ2 H2 => wipe σ2 vs = wipe σ vs ∧ Q σ2 H2
def Keepss (g : TGs) (vs : List Nat) : Prop := ∀ v σ H Q, g v σ H Q → g v σ H fun σ2 H2 => wipe σ2 vs = wipe σ vs ∧ Q σ2 H2
theorem keeps_name {i : Nat} {vs : List Nat} (h : i ∈ vs) : Keeps (gName i) vs := fun v σ H Q q => ⟨wipe_set h, q⟩
theorem keepss_nil {vs : List Nat} : Keepss gNil vs := fun v σ H Q q => ⟨q.1, rfl, q.2⟩
theorem gName_mono {i : Nat} {v : V} {σ : L2.St} {H : Hp} {Q Q' : L2.St → Hp → Prop} (h : gName i v σ H Q) (k : ∀ σ' H', Q σ' H' → Q' σ' H') : gName i v σ H Q' := k _ _ h
theorem keepss_cons {i : Nat} {u : TGs} {vs : List Nat} (h : i ∈ vs) (hu : Keepss u vs) : Keepss (gCons (gName i) u) vs := fun v σ H Q q => by
  obtain ⟨x, r, e, q⟩ := q
  refine ⟨x, r, e, ?_⟩
  have q2 := hu r _ _ _ q
  show u r (σ.set i (some x)) H fun σ2 H2 => wipe σ2 vs = wipe σ vs ∧ Q σ2 H2
  rw [wipe_set h] at q2
  exact q2
theorem keeps_tup {K : PySem.W.Frag} {n : Nat} {u : TGs} {vs : List Nat} (hu : Keepss u vs) : Keeps (gTup K n u) vs := fun v σ H Q q => by
  obtain ⟨a, xs, e, h1, h2, q⟩ := q
  exact ⟨a, xs, e, h1, h2, hu xs σ H Q q⟩
theorem lc_core' {ti : TI} {g : TG} {tt : TT} {te : TE} {wi : WI} {wg : WG} {wt : WT} {we : WE} {vs : List Nat} (hi : SI K ti wi) (hg : SG K g wg) (hk : Keeps g vs) (ht : ST K tt wt) (he : SE K te we)
    {D : Hp} {σ : L2.St} {γ : En} {M : Sto} {H : Hp} {Q : VK} {Rf : List Dt → Sto → Prop} (e : RE K D σ γ) (ok : Ok K D M H)
    (h : wi γ M fun xs M1 => xs.length < sizeLine ∧ ∃ I : Nat → List Dt → Sto → Prop, I 0 [] M1 ∧
      (∀ i x acc M p, xs[i]? = some x → I i acc M → M p = none → wg x (wipeE γ vs) (put M p (.lst (acc.map S.d))) fun γ2 M2 => wt γ2 M2 fun b M3 =>
        if b = true then we γ2 M3 fun s M4 => ∃ y M5, s = .d y ∧ M4 = put M5 p (.lst (acc.map S.d)) ∧ M5 p = none ∧ I (i + 1) (acc ++ [y]) M5 else ∃ M5, M3 = put M5 p (.lst (acc.map S.d)) ∧ M5 p = none ∧ I (i + 1) acc M5) ∧
      (∀ acc M, I xs.length acc M → Rf acc M))
    (hd : ∀ p acc D' M' H', Same D D' → Ok K D' (put M' p (.lst (acc.map S.d))) H' → M' p = none → Rf acc M' → Q (.ref p) H') : tLc ti g tt te vs σ H Q :=
  hi D σ γ M H _ _ e ok h fun J xs D0 M0 H0 s0 ok0 w ⟨hz, I, h0, hs, hr⟩ => by
    intro p hp
    refine ⟨fun i m H' => m = xs.length - i ∧ i ≤ xs.length ∧ ∃ D' M' acc, Same D0 D' ∧ Ok K D' (put M' p (.lst (acc.map S.d))) H' ∧ M' p = none ∧ acc.length ≤ i ∧ I i acc M',
      ⟨xs.length, by simp, Nat.zero_le _, D0, M0, [], Same.refl _, ok0.newM hp ⟨[], rfl, .nil⟩, ok0.mnone hp, Nat.le_refl _, h0⟩, ?_⟩
    rintro i m H1 ⟨rfl, hi, D1, M1, acc, s1, ok1, n1, l1, i1⟩
    by_cases hlt : i < xs.length
    · refine .inr ⟨w.go i H1 hlt (s1.trans ok1.s), fun H' => i + 1 ≤ xs.length ∧ ∃ D' M' acc, Same D0 D' ∧ Ok K D' (put M' p (.lst (acc.map S.d))) H' ∧ M' p = none ∧ acc.length ≤ i + 1 ∧ I (i + 1) acc M', fun H' h => ⟨xs.length - (i + 1), by omega, rfl, h.1, h.2⟩, fun x H' y => ?_⟩
      obtain ⟨s, D2, hx, s2, ok2, rx⟩ := w.yld i H1 x H' D1 _ hlt s1 ok1 y
      have s02 := s0.trans (s1.trans s2)
      have q := hk x (wipe σ vs) H' _ (hg D2 (wipe σ vs) (wipeE γ vs) _ H' x s _ (fun σ2 H2 => tt σ2 H2 fun b H3 => if b = true then te σ2 H3 fun y H4 => ∃ acc, H4 p = some (.lst acc) ∧ acc.length < sizeLine ∧ (i + 1 ≤ xs.length ∧ ∃ D' M' acc', Same D0 D' ∧ Ok K D' (put M' p (.lst (acc'.map S.d))) (upd H4 p (.lst (acc ++ [y]))) ∧ M' p = none ∧ acc'.length ≤ i + 1 ∧ I (i + 1) acc' M') else (i + 1 ≤ xs.length ∧ ∃ D' M' acc, Same D0 D' ∧ Ok K D' (put M' p (.lst (acc.map S.d))) H3 ∧ M' p = none ∧ acc.length ≤ i + 1 ∧ I (i + 1) acc M'))
        ((e.mono s02).wipe vs) ok2 rx (hs i s acc M1 p hx i1 n1) fun σ3 γ3 D3 M3 H3 s3 ok3 e3 q3 => ht D3 σ3 γ3 M3 H3 _ _ e3 ok3 q3 fun b D4 M4 H4 s4 ok4 q4 => by
          cases b with
          | false =>
            obtain ⟨M5, eM, n5, i5⟩ := q4
            subst eM
            exact ⟨hlt, D4, M5, acc, ((s1.trans s2).trans s3).trans s4, ok4, n5, by omega, i5⟩
          | true =>
            refine he D4 σ3 γ3 M4 H4 _ _ (e3.mono s4) ok4 q4 fun v s' D5 M' H5 s5 ok5 r5 ⟨yd, M5, es, eM, n5, i5⟩ => ?_
            subst es
            subst eM
            obtain ⟨us, hH, hu⟩ := ok5.lst put_same
            have lu : us.length = acc.length := by rw [Paired.length hu, List.length_map]
            refine ⟨us, hH, by omega, hlt, D5, M5, acc ++ [yd], (((s1.trans s2).trans s3).trans s4).trans s5, ?_, n5, by rw [List.length_append, List.length_singleton]; omega, i5⟩
            have ok6 := ok5.set (p := p) (o := .lst ((acc ++ [yd]).map S.d)) (ho := .lst (us ++ [v])) put_same ⟨us ++ [v], rfl, by rw [List.map_append]; exact Paired.snoc hu r5⟩
            rw [put_put] at ok6
            exact ok6)
      have wi : wipe (wipe σ vs) vs = wipe σ vs := wipe_idem fun _ h => h
      rw [wi] at q
      exact q
    · have ei : i = xs.length := by omega
      subst ei
      exact .inl ⟨w.stop H1 (s1.trans ok1.s), hd p acc D1 M1 H1 (s0.trans s1) ok1 n1 (hr acc M1 i1)⟩
structure wLcB (wi : WI) (wg : WG) (wt : WT) (we : WE) (vs : List Nat) (Rf : List Dt → Sto → Prop) (γ : En) (M : Sto) : Prop where
  go : wi γ M fun xs M1 => xs.length < sizeLine ∧ ∃ I : Nat → List Dt → Sto → Prop, I 0 [] M1 ∧
    (∀ i x acc M p, xs[i]? = some x → I i acc M → M p = none → wg x (wipeE γ vs) (put M p (.lst (acc.map S.d))) fun γ2 M2 => wt γ2 M2 fun b M3 =>
      if b = true then we γ2 M3 fun s M4 => ∃ y M5, s = .d y ∧ M4 = put M5 p (.lst (acc.map S.d)) ∧ M5 p = none ∧ I (i + 1) (acc ++ [y]) M5 else ∃ M5, M3 = put M5 p (.lst (acc.map S.d)) ∧ M5 p = none ∧ I (i + 1) acc M5) ∧
    (∀ acc M, I xs.length acc M → Rf acc M)
def wLcD (wi : WI) (wg : WG) (wt : WT) (we : WE) (vs : List Nat) : WE := fun γ M R => wLcB wi wg wt we vs (fun acc M => R (.d (.lst acc)) M) γ M
def wLcM (wi : WI) (wg : WG) (wt : WT) (we : WE) (vs : List Nat) : WE := fun γ M R => wLcB wi wg wt we vs (fun acc M => ∀ p, M p = none → R (.a p) (put M p (.lst (acc.map S.d)))) γ M
theorem se_lcD {ti : TI} {g : TG} {tt : TT} {te : TE} {wi : WI} {wg : WG} {wt : WT} {we : WE} {vs : List Nat} (hi : SI K ti wi) (hg : SG K g wg) (hk : Keeps g vs) (ht : ST K tt wt) (he : SE K te we) : SE K (tLc ti g tt te vs) (wLcD wi wg wt we vs) :=
  fun D σ γ M H R Q e ok h k => lc_core' hi hg hk ht he e ok h.go fun p acc D' M' H' s' ok' n' r' => by
    obtain ⟨D2, s2, ok2, r2⟩ := ok'.frz put_same
    rw [del_put n'] at ok2
    exact k _ (.d (.lst acc)) D2 M' H' (s'.trans s2) ok2 r2 r'
theorem se_lcM {ti : TI} {g : TG} {tt : TT} {te : TE} {wi : WI} {wg : WG} {wt : WT} {we : WE} {vs : List Nat} (hi : SI K ti wi) (hg : SG K g wg) (hk : Keeps g vs) (ht : ST K tt wt) (he : SE K te we) : SE K (tLc ti g tt te vs) (wLcM wi wg wt we vs) :=
  fun D σ γ M H R Q e ok h k => lc_core' hi hg hk ht he e ok h.go fun p acc D' M' H' s' ok' n' r' => k _ (.a p) D' _ H' s' ok' rfl (r' p n')
end
end Lw
set_option Elab.async false
set_option linter.all false
set_option maxRecDepth 100000
set_option maxHeartbeats 4000000
namespace Lw
open PySem PySem.Spec PyProof.Rows L2

def onInt (s : S) (P : Int → Prop) : Prop := match s with | .d (.int i) => P i | _ => False
def onStr (s : S) (P : Str → Prop) : Prop := match s with | .d (.str i) => P i | _ => False
theorem onInt_inv : ∀ {s : S} {P : Int → Prop}, onInt s P → ∃ b, s = .d (.int b) ∧ P b
  | .d (.int b), _, h => ⟨b, rfl, h⟩
theorem onStr_inv : ∀ {s : S} {P : Str → Prop}, onStr s P → ∃ b, s = .d (.str b) ∧ P b
  | .d (.str b), _, h => ⟨b, rfl, h⟩
section
variable {K : PySem.W.Frag}
theorem Bh.here {D : Hp} {R : KS} {Q : VK} {M : Sto} {H : Hp} (k : Bh K D R Q) (ok : Ok K D M H) {v : V} {s : S} (r : RS K D v s) (q : R s M) : Q v H := k v s D M H (Same.refl D) ok r q
/-- a new list, a new tuple, as data -/
theorem Bh.newL {D : Hp} {R : KS} {Q : VK} {M : Sto} {H : Hp} (k : Bh K D R Q) (ok : Ok K D M H) {vs : List V} {ds : List Dt} (r : DqAll K D vs ds) (q : R (.d (.lst ds)) M) {p : Addr} (hp : H p = none) : Q (.ref p) (upd H p (.lst vs)) :=
  k _ (.d (.lst ds)) _ M _ (Same.new (ok.dnone hp)) (ok.newD hp _) (.lst upd_same (DqAll.mono (Same.new (ok.dnone hp)) _ _ r)) q
theorem Bh.newT {D : Hp} {R : KS} {Q : VK} {M : Sto} {H : Hp} (k : Bh K D R Q) (ok : Ok K D M H) {vs : List V} {ds : List Dt} (r : DqAll K D vs ds) (q : R (.d (.tup ds)) M) {p : Addr} (hp : H p = none) : Q (.ref p) (upd H p (.tup vs)) :=
  k _ (.d (.tup ds)) _ M _ (Same.new (ok.dnone hp)) (ok.newD hp _) (.tup (.inl (.inl upd_same)) (DqAll.mono (Same.new (ok.dnone hp)) _ _ r)) q
theorem Bh.newM {D : Hp} {R : KS} {Q : VK} {M : Sto} {H : Hp} (k : Bh K D R Q) (ok : Ok K D M H) {vs : List V} {ss : List S} (r : Paired (RS K D) vs ss) (q : ∀ p, M p = none → R (.a p) (put M p (.lst ss))) {p : Addr} (hp : H p = none) : Q (.ref p) (upd H p (.lst vs)) :=
  k _ (.a p) D _ _ (Same.refl D) (ok.newM hp ⟨vs, rfl, r⟩) rfl (q p (ok.mnone hp))

/-! ### operators -/
def wI2 (g : Int → Int → Dt) : S → S → Sto → KS → Prop := fun x y M R => onInt x fun i => onInt y fun j => R (.d (g i j)) M
def wI2c (C : Int → Int → Prop) (g : Int → Int → Dt) : S → S → Sto → KS → Prop := fun x y M R => onInt x fun i => onInt y fun j => C i j ∧ R (.d (g i j)) M
theorem sr_I0 {g : Int → Int → V} {g' : Int → Int → Dt} (h : ∀ D i j, Dq K D (g i j) (g' i j)) : SR K (rI0 g) (wI2 g') := fun D M H x y s u R Q ok rx ry q k => by
  obtain ⟨i, rfl, q1⟩ := onInt_inv q
  obtain ⟨j, rfl, q2⟩ := onInt_inv q1
  cases rx
  cases ry
  exact ⟨i, j, rfl, rfl, k.here ok (s := .d _) (h D i j) q2⟩
theorem sr_I {C : Int → Int → Prop} {g : Int → Int → V} {g' : Int → Int → Dt} (h : ∀ D i j, Dq K D (g i j) (g' i j)) : SR K (rI C g) (wI2c C g') := fun D M H x y s u R Q ok rx ry q k => by
  obtain ⟨i, rfl, q1⟩ := onInt_inv q
  obtain ⟨j, rfl, c, q2⟩ := onInt_inv q1
  cases rx
  cases ry
  exact ⟨i, j, rfl, rfl, c, k.here ok (s := .d _) (h D i j) q2⟩
theorem sr_ip {f : Int → Int → Int} : SR K (ipI f) (wI2 fun i j => .int (f i j)) := fun D M H x y s u R Q ok rx ry q k => by
  obtain ⟨i, rfl, q1⟩ := onInt_inv q
  obtain ⟨j, rfl, q2⟩ := onInt_inv q1
  cases rx
  cases ry
  exact ⟨i, j, rfl, rfl, k.here ok (s := .d (.int _)) (.int _) q2⟩
/-- + : ints, texts, lists, tuples -/
def wPlus : S → S → Sto → KS → Prop := fun x y M R => match x, y with
  | .d (.int i), .d (.int j) => R (.d (.int (i + j))) M
  | .d (.str i), .d (.str j) => i.length + j.length ≤ sizeLine ∧ R (.d (.str (i ++ j))) M
  | .d (.lst i), .d (.lst j) => i.length + j.length ≤ sizeLine ∧ R (.d (.lst (i ++ j))) M
  | .d (.tup i), .d (.tup j) => i.length + j.length ≤ sizeLine ∧ R (.d (.tup (i ++ j))) M
  | _, _ => False
def rPlus (K : PySem.W.Frag) : R2 := fun x y H Q => (rI0 fun i j => .int (i + j)) x y H Q ∨ ((∃ i j, x = .str i ∧ y = .str j ∧ i.length + j.length ≤ sizeLine ∧ Q (.str (i ++ j)) H) ∨ (rCat x y H Q ∨ rCatA K x y H Q))
theorem sr_plus : SR K (rPlus K) wPlus := fun D M H x y s u R Q ok rx ry q k => by
  unfold wPlus at q
  split at q
  · cases rx; cases ry
    exact .inl ⟨_, _, rfl, rfl, k.here ok (s := .d (.int _)) (.int _) q⟩
  · cases rx; cases ry
    exact .inr (.inl ⟨_, _, rfl, rfl, q.1, k.here ok (s := .d (.str _)) (.str _) q.2⟩)
  · cases rx with
    | lst h1 h2 =>
      cases ry with
      | lst g1 g2 => exact .inr (.inr (.inl ⟨_, _, _, _, rfl, rfl, ok.s _ _ h1, ok.s _ _ g1, by rw [h2.length, g2.length]; exact q.1, fun p hp => k.newL ok (DqAll.append h2 g2) q.2 hp⟩))
  · cases rx with
    | tup h1 h2 =>
      cases ry with
      | tup g1 g2 =>
        refine .inr (.inr (.inr ⟨_, _, _, _, rfl, rfl, Same.sqt ok.s h1, Same.sqt ok.s g1, by rw [h2.length, g2.length]; exact q.1, fun e => ?_, fun _ e => ?_, fun _ _ p hp => k.newT ok (DqAll.append h2 g2) q.2 hp⟩))
        · subst e
          cases h2
          exact k.here ok (s := .d (.tup _)) (.tup g1 g2) q.2
        · subst e
          cases g2
          refine k.here ok (s := .d (.tup _)) (.tup h1 h2) ?_
          simpa using q.2
  · exact q.elim
theorem op_plus {X : Cx} : OpR X (binaryOp .Add) (rPlus X.K) := op_add.or (op_add_str.or (op_cat.or op_catA))
/-- a list of two, that is to be changed -/
def wPlusM : S → S → Sto → KS → Prop := fun x y M R => match x, y with
  | .d (.lst i), .d (.lst j) => i.length + j.length ≤ sizeLine ∧ ∀ p, M p = none → R (.a p) (put M p (.lst ((i ++ j).map S.d)))
  | _, _ => False
theorem sr_plusM : SR K rCat wPlusM := fun D M H x y s u R Q ok rx ry q k => by
  unfold wPlusM at q
  split at q
  · cases rx with
    | lst h1 h2 =>
      cases ry with
      | lst g1 g2 => exact ⟨_, _, _, _, rfl, rfl, ok.s _ _ h1, ok.s _ _ g1, by rw [h2.length, g2.length]; exact q.1, fun p hp => k.newM ok (paired_of (DqAll.append h2 g2)) q.2 hp⟩
  · exact q.elim
/-- * : ints, a list or a tuple so many times -/
def wMul : S → S → Sto → KS → Prop := fun x y M R => match x, y with
  | .d (.int i), .d (.int j) => CMulW i j ∧ R (.d (.int (i * j))) M
  | .d (.lst i), .d (.int j) => -(2 ^ 63) ≤ j ∧ j < 2 ^ 63 ∧ i.length * j.toNat ≤ sizeLine ∧ R (.d (.lst (List.replicate j.toNat i).flatten)) M
  | _, _ => False
def rMul : R2 := fun x y H Q => (rI CMulW fun i j => .int (i * j)) x y H Q ∨ rRep x y H Q
theorem DqAll.rep {D : Hp} {vs : List V} {ds : List Dt} (h : DqAll K D vs ds) : ∀ n : Nat, DqAll K D (List.replicate n vs).flatten (List.replicate n ds).flatten
  | 0 => .nil
  | n + 1 => by
    rw [List.replicate_succ, List.replicate_succ, List.flatten_cons, List.flatten_cons]
    exact DqAll.append h (DqAll.rep h n)
theorem sr_mul : SR K rMul wMul := fun D M H x y s u R Q ok rx ry q k => by
  unfold wMul at q
  split at q
  · cases rx; cases ry
    exact .inl ⟨_, _, rfl, rfl, q.1, k.here ok (s := .d (.int _)) (.int _) q.2⟩
  · cases ry
    cases rx with
    | lst h1 h2 => exact .inr ⟨_, _, _, rfl, rfl, ok.s _ _ h1, q.1, q.2.1, by rw [h2.length]; exact q.2.2.1, fun p hp => k.newL ok (DqAll.rep h2 _) q.2.2.2 hp⟩
  · exact q.elim
theorem op_mulA {X : Cx} : OpR X (binaryOp .Mult) rMul := op_mulW.or op_rep
/-- a tuple so many times -/
def wMulT : S → S → Sto → KS → Prop := fun x y M R => match x, y with
  | .d (.tup i), .d (.int j) => i ≠ [] ∧ 2 ≤ j ∧ j ≤ 1000 ∧ i.length ≤ 1000 ∧ R (.d (.tup (List.replicate j.toNat i).flatten)) M
  | _, _ => False
/-! ### comparisons -/
def scalD : Dt → Dt → Bool
  | .non, .non => true | .non, .int _ => true | .int _, .non => true | .non, .bl _ => true | .bl _, .non => true | .non, .str _ => true | .str _, .non => true
  | .int _, .int _ => true | .bl _, .bl _ => true | .str _, .str _ => true
  | .int _, .str _ => true | .str _, .int _ => true | .bl _, .str _ => true | .str _, .bl _ => true
  | _, _ => false
def eqD : Dt → Dt → Bool
  | .non, .non => true
  | .int i, .int j => decide (i = j)
  | .bl i, .bl j => decide (i = j)
  | .str i, .str j => decide (i = j)
  | _, _ => false
theorem scal_of {D : Hp} {a b : Dt} {x y : V} (h : scalD a b = true) (rx : Dq K D x a) (ry : Dq K D y b) : scal x y = true ∧ decide (x = y) = eqD a b := by
  unfold scalD at h
  split at h <;> first | (cases h; done) | (cases rx; cases ry; refine ⟨rfl, ?_⟩; first | rfl | (unfold eqD; exact decide_eq_decide.mpr ⟨fun z => by cases z; rfl, fun z => by rw [z]⟩) | exact decide_eq_false (fun z => nomatch z))
def wEq : S → S → Sto → KS → Prop := fun x y M R => onD x fun a => onD y fun b => scalD a b = true ∧ R (.d (.bl (eqD a b))) M
def wNe : S → S → Sto → KS → Prop := fun x y M R => onD x fun a => onD y fun b => scalD a b = true ∧ R (.d (.bl (!eqD a b))) M
theorem sr_eq : SR K rEq wEq := fun D M H x y s u R Q ok rx ry q k => by
  obtain ⟨a, rfl, q1⟩ := onD_inv q
  obtain ⟨b, rfl, c, q2⟩ := onD_inv q1
  obtain ⟨h1, h2⟩ := scal_of c rx ry
  exact ⟨h1, by rw [h2]; exact k.here ok (s := .d (.bl _)) (.bl _) q2⟩
theorem sr_ne : SR K rNe wNe := fun D M H x y s u R Q ok rx ry q k => by
  obtain ⟨a, rfl, q1⟩ := onD_inv q
  obtain ⟨b, rfl, c, q2⟩ := onD_inv q1
  obtain ⟨h1, h2⟩ := scal_of c rx ry
  exact ⟨h1, by rw [h2]; exact k.here ok (s := .d (.bl _)) (.bl _) q2⟩
def isNon : S → Bool | .d .non => true | _ => false
def isBlS (b : Bool) : S → Bool | .d (.bl c) => decide (c = b) | _ => false
theorem isNon_of {D : Hp} {v : V} {s : S} (r : RS K D v s) : decide (v = V.non) = isNon s := by
  cases s with
  | d x => cases x <;> cases r <;> first | rfl | exact decide_eq_false (fun z => nomatch z)
  | a p => cases (show v = V.ref p from r); exact decide_eq_false (fun z => nomatch z)
  | scr ns => obtain ⟨a, rfl, _⟩ := r; exact decide_eq_false (fun z => nomatch z)
theorem isBlS_of {D : Hp} {v : V} {s : S} (b : Bool) (r : RS K D v s) : decide (v = V.bl b) = isBlS b s := by
  cases s with
  | d x => cases x <;> cases r <;> first | exact decide_eq_decide.mpr ⟨fun z => by cases z; rfl, fun z => by rw [z]⟩ | exact decide_eq_false (fun z => nomatch z)
  | a p => cases (show v = V.ref p from r); exact decide_eq_false (fun z => nomatch z)
  | scr ns => obtain ⟨a, rfl, _⟩ := r; exact decide_eq_false (fun z => nomatch z)
def wIsN : WE → WE := fun wa γ M R => wa γ M fun x M1 => R (.d (.bl (isNon x))) M1
def wNotN : WE → WE := fun wa γ M R => wa γ M fun x M1 => R (.d (.bl (!isNon x))) M1
theorem se_isN {ta : TE} {wa : WE} (ha : SE K ta wa) : SE K (tOp (fun x y H Q => y = .non ∧ Q (.bl (decide (x = .non))) H) ta (tC .non)) (wIsN wa) := fun D σ γ M H R Q e ok h k =>
  ha D σ γ M H _ _ e ok h fun x s D1 M1 H1 s1 ok1 rx q => ⟨rfl, by rw [isNon_of rx]; exact (k.at s1).here ok1 (s := .d (.bl _)) (.bl _) q⟩
theorem se_notN {ta : TE} {wa : WE} (ha : SE K ta wa) : SE K (tOp (fun x y H Q => y = .non ∧ Q (.bl (!decide (x = .non))) H) ta (tC .non)) (wNotN wa) := fun D σ γ M H R Q e ok h k =>
  ha D σ γ M H _ _ e ok h fun x s D1 M1 H1 s1 ok1 rx q => ⟨rfl, by rw [isNon_of rx]; exact (k.at s1).here ok1 (s := .d (.bl _)) (.bl _) q⟩
def wIsB (b : Bool) : WE → WE := fun wa γ M R => wa γ M fun x M1 => R (.d (.bl (isBlS b x))) M1
theorem se_isB {b : Bool} {ta : TE} {wa : WE} (ha : SE K ta wa) : SE K (tOp rIsBool ta (tC (.bl b))) (wIsB b wa) := fun D σ γ M H R Q e ok h k =>
  ha D σ γ M H _ _ e ok h fun x s D1 M1 H1 s1 ok1 rx q => ⟨b, rfl, by rw [isBlS_of b rx]; exact (k.at s1).here ok1 (s := .d (.bl _)) (.bl _) q⟩
/-! in, not in -/
def flatD : Dt → Bool | .non => true | .bl _ => true | .int _ => true | .str _ => true | _ => false
def toV : Dt → V | .non => .non | .bl b => .bl b | .int i => .int i | .str x => .str x | _ => .non
theorem toV_of {D : Hp} {v : V} {d : Dt} (f : flatD d = true) (r : Dq K D v d) : v = toV d ∧ flatV v = true := by
  cases d <;> first | (cases f; done) | (cases r; exact ⟨rfl, rfl⟩)
theorem toV_all {D : Hp} : ∀ {ds : List Dt} {vs : List V}, ds.all flatD = true → DqAll K D vs ds → vs = ds.map toV ∧ vs.all flatV = true
  | [], _, _, h => by cases h; exact ⟨rfl, rfl⟩
  | d :: ds, _, f, h => by
    cases h with
    | cons h1 h2 =>
      rw [List.all_cons, Bool.and_eq_true] at f
      obtain ⟨a, b⟩ := toV_of f.1 h1
      obtain ⟨c, e⟩ := toV_all f.2 h2
      exact ⟨by rw [a, c]; rfl, by rw [List.all_cons, b, e]; rfl⟩
def inD (x : Dt) (ds : List Dt) : Bool := ds.any fun y => eqV (toV y) (toV x)
def wIn (neg : Bool) : S → S → Sto → KS → Prop := fun x y M R => onD x fun a => match y with
  | .d (.lst ds) => flatD a = true ∧ ds.all flatD = true ∧ R (.d (.bl (if neg then !inD a ds else inD a ds))) M
  | .d (.tup ds) => flatD a = true ∧ ds.all flatD = true ∧ R (.d (.bl (if neg then !inD a ds else inD a ds))) M
  | _ => False
theorem inV_of {D : Hp} {x : V} {a : Dt} {vs : List V} {ds : List Dt} (fa : flatD a = true) (fd : ds.all flatD = true) (rx : Dq K D x a) (r : DqAll K D vs ds) : inV x vs = inD a ds ∧ flatV x = true ∧ vs.all flatV = true := by
  obtain ⟨e1, e2⟩ := toV_of fa rx
  obtain ⟨e3, e4⟩ := toV_all fd r
  refine ⟨?_, e2, e4⟩
  rw [e1, e3]
  unfold inV inD
  rw [List.any_map]
  rfl
theorem sr_in (neg : Bool) : SR K (rIn K neg) (wIn neg) := fun D M H x y s u R Q ok rx ry q k => by
  obtain ⟨a, rfl, q1⟩ := onD_inv q
  clear q
  split at q1
  · rename_i ds
    cases ry with
    | lst h1 h2 =>
      obtain ⟨e1, e2, e3⟩ := inV_of q1.1 q1.2.1 rx h2
      exact ⟨_, _, rfl, .inl (SqL.of (ok.s _ _ h1)), e2, e3, by rw [e1]; exact k.here ok (s := .d (.bl _)) (.bl _) q1.2.2⟩
  · rename_i ds
    cases ry with
    | tup h1 h2 =>
      obtain ⟨e1, e2, e3⟩ := inV_of q1.1 q1.2.1 rx h2
      exact ⟨_, _, rfl, .inr (Same.sqt ok.s h1), e2, e3, by rw [e1]; exact k.here ok (s := .d (.bl _)) (.bl _) q1.2.2⟩
  · exact q1.elim
/-! ### items, slices -/
def wIx : S → S → Sto → KS → Prop := fun x y M R => onInt y fun i => match x with
  | .d (.lst ds) => ∃ v, atI ds i = some v ∧ R (.d v) M
  | .d (.tup ds) => ∃ v, atI ds i = some v ∧ R (.d v) M
  | .d (.str z) => z.length ≤ sizeLine ∧ ∃ c, atI z.cps.toList i = some c ∧ R (.d (.str ⟨#[c]⟩)) M
  | .a p => ∃ xs v, M p = some (.lst xs) ∧ atI xs i = some v ∧ R v M
  | _ => False
theorem atI_rel {α β : Type} {F : α → β → Prop} {xs : List α} {ys : List β} (hl : xs.length = ys.length) (h : ∀ (i : Nat) (y : β), ys[i]? = some y → ∃ x, xs[i]? = some x ∧ F x y) {i : Int} {y : β} (e : atI ys i = some y) : ∃ x, atI xs i = some x ∧ F x y := by
  unfold atI at e ⊢
  rw [hl]
  cases q : ixN ys.length i with
  | none => rw [q] at e; cases e
  | some j =>
    rw [q] at e
    exact h j y e
theorem paired_get {D : Hp} : ∀ {vs : List V} {ss : List S}, Paired (RS K D) vs ss → ∀ (i : Nat) (s : S), ss[i]? = some s → ∃ v, vs[i]? = some v ∧ RS K D v s
  | _, _, .nil, _, _, e => by simp at e
  | _, _, .cons r t, 0, _, e => by simp at e; subst e; exact ⟨_, rfl, r⟩
  | _, _, .cons r t, i + 1, s, e => by
    obtain ⟨v, q, p⟩ := paired_get t i s (by simpa using e)
    exact ⟨v, by simpa using q, p⟩
theorem sr_ix : SR K (rIx K) wIx := fun D M H x y s u R Q ok rx ry q k => by
  obtain ⟨i, rfl, q1⟩ := onInt_inv q
  clear q
  cases ry
  split at q1
  · obtain ⟨v, e, q⟩ := q1
    cases rx with
    | lst h1 h2 =>
      obtain ⟨x, e2, r⟩ := atI_rel h2.length (fun j d hd => DqAll.get h2 hd) e
      exact .inl ⟨_, _, _, _, rfl, rfl, SqL.of (ok.s _ _ h1), e2, k.here ok (s := .d _) r q⟩
  · obtain ⟨v, e, q⟩ := q1
    cases rx with
    | tup h1 h2 =>
      obtain ⟨x, e2, r⟩ := atI_rel h2.length (fun j d hd => DqAll.get h2 hd) e
      exact .inr (.inl ⟨_, _, _, _, rfl, rfl, Same.sqt ok.s h1, e2, k.here ok (s := .d _) r q⟩)
  · obtain ⟨z, c, e, q⟩ := q1
    cases rx
    exact .inr (.inr ⟨_, _, c, rfl, rfl, z, e, k.here ok (s := .d (.str _)) (.str _) q⟩)
  · obtain ⟨xs, v, hm, e, q⟩ := q1
    cases (show x = V.ref _ from rx)
    obtain ⟨vs, hp, hv⟩ := ok.lst hm
    obtain ⟨y, e2, r⟩ := atI_rel (Paired.length hv) (fun j d hd => paired_get hv j d hd) e
    exact .inl ⟨_, _, _, _, rfl, rfl, SqL.of hp, e2, k.here ok r q⟩
  · exact q1.elim
def cutG {α : Type} (xs : List α) (lo hi : Option Int) : List α := (xs.drop (HT.sIx xs.length 0 lo)).take (HT.sIx xs.length xs.length hi - HT.sIx xs.length 0 lo)
theorem DqAll.cut {D : Hp} {vs : List V} {ds : List Dt} (h : DqAll K D vs ds) (lo hi : Option Int) : DqAll K D (cutV vs lo hi) (cutG ds lo hi) := by
  unfold cutV cutG
  rw [h.length]
  exact DqAll.take _ (DqAll.drop _ h)
abbrev WO := En → Sto → (Option Int → Sto → Prop) → Prop
def SO (K : PySem.W.Frag) (t : TO) (w : WO) : Prop := ∀ D σ γ M H (R : Option Int → Sto → Prop) (Q : Option Int → Hp → Prop), RE K D σ γ → Ok K D M H → w γ M R → (∀ b D' M' H', Same D D' → Ok K D' M' H' → R b M' → Q b H') → t σ H Q
def wNoP : WO := fun _ M R => R none M
def wPart (we : WE) : WO := fun γ M R => we γ M fun x M1 => onInt x fun i => R (some i) M1
theorem so_no : SO K tNoPart wNoP := fun D σ γ M H R Q e ok h k => k none D M H (Same.refl D) ok h
theorem so_part {t : TE} {w : WE} (h : SE K t w) : SO K (tPart t) (wPart w) := fun D σ γ M H R Q e ok q k =>
  h D σ γ M H _ _ e ok q fun v s D1 M1 H1 s1 ok1 r q1 => by
    obtain ⟨i, rfl, q2⟩ := onInt_inv q1
    cases r
    exact ⟨i, rfl, k _ D1 M1 H1 s1 ok1 q2⟩
def wSlR (x : S) (lo hi : Option Int) (M : Sto) (R : KS) : Prop := match x with
  | .d (.lst ds) => R (.d (.lst (cutG ds lo hi))) M
  | .d (.tup ds) => R (.d (.tup (cutG ds lo hi))) M
  | .d (.str z) => z.length ≤ sizeLine ∧ R (.d (.str (cutS z lo hi))) M
  | .scr ns => R (.d (.lst ((cutG ns lo hi).map Dt.int))) M
  | .a p => ∃ ds : List Dt, M p = some (.lst (ds.map S.d)) ∧ R (.d (.lst (cutG ds lo hi))) M
  | _ => False
def rSlAny (K : PySem.W.Frag) : V → Option Int → Option Int → Hp → VK → Prop := fun x lo hi H Q => rSlL K x lo hi H Q ∨ (rSlA K x lo hi H Q ∨ rSlS x lo hi H Q)
def wSl (we : WE) (wl wh : WO) : WE := fun γ M R => we γ M fun x M1 => wl γ M1 fun l M2 => wh γ M2 fun h M3 => wSlR x l h M3 R
theorem cutV_map {α : Type} (f : α → V) (xs : List α) (lo hi : Option Int) : cutV (xs.map f) lo hi = (cutG xs lo hi).map f := by
  unfold cutV cutG
  rw [List.length_map, List.map_take, List.map_drop]
theorem se_sl {te : TE} {tl th : TO} {we : WE} {wl wh : WO} (he : SE K te we) (hl : SO K tl wl) (hh : SO K th wh) : SE K (tSl (rSlAny K) te tl th) (wSl we wl wh) := fun D σ γ M H R Q e ok h k =>
  he D σ γ M H _ _ e ok h fun x s D1 M1 H1 s1 ok1 rx q => hl D1 σ γ M1 H1 _ _ (e.mono s1) ok1 q fun l D2 M2 H2 s2 ok2 q2 => hh D2 σ γ M2 H2 _ _ ((e.mono s1).mono s2) ok2 q2 fun h D3 M3 H3 s3 ok3 q3 => by
    have k3 := k.at ((s1.trans s2).trans s3)
    have rx := RS.mono (s2.trans s3) rx
    unfold wSlR at q3
    split at q3
    · cases rx with
      | lst h1 h2 => exact .inl ⟨_, _, rfl, SqL.of (ok3.s _ _ h1), fun p hp => k3.newL ok3 (h2.cut l h) q3 hp⟩
    · rename_i ds _
      cases rx with
      | tup h1 h2 =>
        refine .inr (.inl ⟨_, _, rfl, Same.sqt ok3.s h1, fun w => ?_, fun _ p hp => k3.newT ok3 (h2.cut l h) q3 hp⟩)
        rw [h2.length] at w
        have e1 : cutG ds l h = ds := by
          unfold cutG
          rw [w.1, w.2, Nat.sub_zero, List.drop_zero, List.take_length]
        rw [e1] at q3
        exact k3.here ok3 (s := .d (.tup ds)) (.tup h1 h2) q3
    · cases rx
      exact .inr (.inr ⟨_, rfl, q3.1, k3.here ok3 (s := .d (.str _)) (.str _) q3.2⟩)
    · rename_i ns _
      obtain ⟨a, rfl, hs⟩ := rx
      refine .inl ⟨_, _, rfl, Same.seq ok3.s hs, fun p hp => ?_⟩
      rw [cutV_map]
      exact k3.newL ok3 (DqAll.ints _) q3 hp
    · obtain ⟨ds, hm, q3⟩ := q3
      cases (show x = V.ref _ from rx)
      obtain ⟨vs, hp, hv⟩ := ok3.lst hm
      exact .inl ⟨_, _, rfl, SqL.of hp, fun p hp => k3.newL ok3 ((of_paired hv).cut l h) q3 hp⟩
    · exact q3.elim
theorem sl_any {X : Cx} : SlR X (rSlAny X.K) := sl_list.or (sl_tupA.or sl_str)
def onLst (s : S) (P : List Dt → Prop) : Prop := match s with | .d (.lst ds) => P ds | _ => False
theorem onLst_inv {s : S} {P : List Dt → Prop} (h : onLst s P) : ∃ ds, s = .d (.lst ds) ∧ P ds := by
  unfold onLst at h
  split at h
  · exact ⟨_, rfl, h⟩
  · exact h.elim
def wRev (we : WE) : WE := fun γ M R => we γ M fun x M1 => onLst x fun ds => R (.d (.lst ds.reverse)) M1
def wRevM (we : WE) : WE := fun γ M R => we γ M fun x M1 => onLst x fun ds => ∀ p, M1 p = none → R (.a p) (put M1 p (.lst (ds.reverse.map S.d)))
theorem se_rev {te : TE} {we : WE} (he : SE K te we) : SE K (tRevL K te) (wRev we) := fun D σ γ M H R Q e ok h k =>
  he D σ γ M H _ _ e ok h fun x s D1 M1 H1 s1 ok1 rx q => by
    obtain ⟨ds, rfl, q1⟩ := onLst_inv q
    cases rx with
    | lst h1 h2 => exact ⟨_, _, rfl, SqL.of (ok1.s _ _ h1), fun p hp => (k.at s1).newL ok1 (DqAll.reverse h2) q1 hp⟩
theorem se_revM {te : TE} {we : WE} (he : SE K te we) : SE K (tRevL K te) (wRevM we) := fun D σ γ M H R Q e ok h k =>
  he D σ γ M H _ _ e ok h fun x s D1 M1 H1 s1 ok1 rx q => by
    obtain ⟨ds, rfl, q1⟩ := onLst_inv q
    cases rx with
    | lst h1 h2 => exact ⟨_, _, rfl, SqL.of (ok1.s _ _ h1), fun p hp => (k.at s1).newM ok1 (paired_of (DqAll.reverse h2)) q1 hp⟩
/-! ### built-ins -/
def w1 (f : S → Sto → KS → Prop) : List S → Sto → KS → Prop := fun ss M R => match ss with | [x] => f x M R | _ => False
def wLen : S → Sto → KS → Prop := fun x M R => match x with
  | .d (.lst ds) => R (.d (.int (ds.length : Nat))) M
  | .d (.tup ds) => R (.d (.int (ds.length : Nat))) M
  | .d (.str z) => z.length ≤ sizeLine ∧ R (.d (.int (z.length : Nat))) M
  | .a p => ∃ xs : List S, M p = some (.lst xs) ∧ R (.d (.int (xs.length : Nat))) M
  | _ => False
def rLen (K : PySem.W.Frag) : List V → Hp → VK → Prop := fun xs H Q => (∃ p ys, xs = [.ref p] ∧ (SqL K H p ys ∨ SqT K H p ys) ∧ Q (.int ys.length) H) ∨ (∃ z, xs = [.str z] ∧ z.length ≤ sizeLine ∧ Q (.int z.length) H)
theorem call_lenA {X : Cx} : CallR X (.builtin "len") (rLen X.K) := call_len_seq.or call_len_str
theorem one_of {D : Hp} {vs : List V} {ss : List S} {f : S → Sto → KS → Prop} {M : Sto} {R : KS} (r : Paired (RS K D) vs ss) (q : w1 f ss M R) : ∃ v s, vs = [v] ∧ ss = [s] ∧ RS K D v s ∧ f s M R := by
  cases r with
  | nil => exact q.elim
  | cons r1 r2 =>
    cases r2 with
    | nil => exact ⟨_, _, rfl, rfl, r1, q⟩
    | cons => exact q.elim
theorem sc_len : SC K (rLen K) (w1 wLen) := fun D M H vs ss R Q ok rs q k => by
  obtain ⟨v, s, rfl, rfl, r, q'⟩ := one_of rs q
  clear q
  have q := q'
  clear q'
  unfold wLen at q
  split at q
  · cases r with
    | lst h1 h2 => exact .inl ⟨_, _, rfl, .inl (SqL.of (ok.s _ _ h1)), k.here ok (s := .d (.int _)) (by rw [h2.length]; exact .int _) q⟩
  · cases r with
    | tup h1 h2 => exact .inl ⟨_, _, rfl, .inr (Same.sqt ok.s h1), k.here ok (s := .d (.int _)) (by rw [h2.length]; exact .int _) q⟩
  · cases r
    exact .inr ⟨_, rfl, q.1, k.here ok (s := .d (.int _)) (.int _) q.2⟩
  · obtain ⟨xs, hm, q⟩ := q
    cases (show v = V.ref _ from r)
    obtain ⟨us, hp, hv⟩ := ok.lst hm
    exact .inl ⟨_, _, rfl, .inl (SqL.of hp), k.here ok (s := .d (.int _)) (by rw [Paired.length hv]; exact .int _) q⟩
  · exact q.elim
def wListOf : S → Sto → KS → Prop := fun x M R => match x with | .d (.lst ds) => R (.d (.lst ds)) M | .d (.tup ds) => R (.d (.lst ds)) M | _ => False
def wListM : S → Sto → KS → Prop := fun x M R => match x with | .d (.lst ds) => (∀ p, M p = none → R (.a p) (put M p (.lst (ds.map S.d)))) | .d (.tup ds) => (∀ p, M p = none → R (.a p) (put M p (.lst (ds.map S.d)))) | _ => False
def wTupOf : S → Sto → KS → Prop := fun x M R => match x with | .d (.lst ds) => R (.d (.tup ds)) M | .d (.tup ds) => R (.d (.tup ds)) M | _ => False
def rListOf (K : PySem.W.Frag) : List V → Hp → VK → Prop := fun xs H Q => ∃ p ys, xs = [.ref p] ∧ (SqL K H p ys ∨ SqT K H p ys) ∧ ∀ l, H l = none → Q (.ref l) (upd H l (.lst ys))
def rTupOf (K : PySem.W.Frag) : List V → Hp → VK → Prop := fun xs H Q => ∃ p ys, xs = [.ref p] ∧ ((SqL K H p ys ∧ ∀ l, H l = none → Q (.ref l) (upd H l (.tup ys))) ∨ (SqT K H p ys ∧ Q (.ref p) H))
theorem sc_list : SC K (rListOf K) (w1 wListOf) := fun D M H vs ss R Q ok rs q k => by
  obtain ⟨v, s, rfl, rfl, r, q'⟩ := one_of rs q
  clear q
  have q := q'
  clear q'
  unfold wListOf at q
  split at q
  · cases r with
    | lst h1 h2 => exact ⟨_, _, rfl, .inl (SqL.of (ok.s _ _ h1)), fun p hp => k.newL ok h2 q hp⟩
  · cases r with
    | tup h1 h2 => exact ⟨_, _, rfl, .inr (Same.sqt ok.s h1), fun p hp => k.newL ok h2 q hp⟩
  · exact q.elim
theorem sc_listM : SC K (rListOf K) (w1 wListM) := fun D M H vs ss R Q ok rs q k => by
  obtain ⟨v, s, rfl, rfl, r, q'⟩ := one_of rs q
  clear q
  have q := q'
  clear q'
  unfold wListM at q
  split at q
  · cases r with
    | lst h1 h2 => exact ⟨_, _, rfl, .inl (SqL.of (ok.s _ _ h1)), fun p hp => k.newM ok (paired_of h2) q hp⟩
  · cases r with
    | tup h1 h2 => exact ⟨_, _, rfl, .inr (Same.sqt ok.s h1), fun p hp => k.newM ok (paired_of h2) q hp⟩
  · exact q.elim
theorem sc_tup : SC K (rTupOf K) (w1 wTupOf) := fun D M H vs ss R Q ok rs q k => by
  obtain ⟨v, s, rfl, rfl, r, q'⟩ := one_of rs q
  clear q
  have q := q'
  clear q'
  unfold wTupOf at q
  split at q
  · cases r with
    | lst h1 h2 => exact ⟨_, _, rfl, .inl ⟨SqL.of (ok.s _ _ h1), fun p hp => k.newT ok h2 q hp⟩⟩
  · cases r with
    | tup h1 h2 => exact ⟨_, _, rfl, .inr ⟨Same.sqt ok.s h1, k.here ok (s := .d (.tup _)) (.tup h1 h2) q⟩⟩
  · exact q.elim
def wIntOf : S → Sto → KS → Prop := fun x M R => match x with | .d (.int i) => R (.d (.int i)) M | .d (.bl b) => R (.d (.int (if b then 1 else 0))) M | _ => False
theorem sc_int : SC K (fun xs H Q => (∃ i, xs = [.int i] ∧ Q (.int i) H) ∨ ∃ k, xs = [.bl k] ∧ Q (.int (if k then 1 else 0)) H) (w1 wIntOf) := fun D M H vs ss R Q ok rs q k => by
  obtain ⟨v, s, rfl, rfl, r, q'⟩ := one_of rs q
  clear q
  have q := q'
  clear q'
  unfold wIntOf at q
  split at q
  · cases r
    exact .inl ⟨_, rfl, k.here ok (s := .d (.int _)) (.int _) q⟩
  · cases r
    exact .inr ⟨_, rfl, k.here ok (s := .d (.int _)) (.int _) q⟩
  · exact q.elim
def wAbs : S → Sto → KS → Prop := fun x M R => onInt x fun i => R (.d (.int (if i < 0 then -i else i))) M
theorem sc_abs : SC K (fun xs H Q => ∃ i, xs = [.int i] ∧ Q (.int (if i < 0 then -i else i)) H) (w1 wAbs) := fun D M H vs ss R Q ok rs q k => by
  obtain ⟨v, s, rfl, rfl, r, q1⟩ := one_of rs q
  obtain ⟨i, rfl, q2⟩ := onInt_inv q1
  cases r
  exact ⟨_, rfl, k.here ok (s := .d (.int _)) (.int _) q2⟩
def wOrd : S → Sto → KS → Prop := fun x M R => onStr x fun z => z.length = 1 ∧ R (.d (.int (z.cps.getD 0 0 : Nat))) M
theorem sc_ord : SC K (fun xs H Q => ∃ x, xs = [.str x] ∧ x.length = 1 ∧ Q (.int (x.cps.getD 0 0 : Nat)) H) (w1 wOrd) := fun D M H vs ss R Q ok rs q k => by
  obtain ⟨v, s, rfl, rfl, r, q1⟩ := one_of rs q
  obtain ⟨i, rfl, q2⟩ := onStr_inv q1
  cases r
  exact ⟨_, rfl, q2.1, k.here ok (s := .d (.int _)) (.int _) q2.2⟩
def wSum : S → Sto → KS → Prop := fun x M R => onLst x fun ds => ∃ ns : List Int, ds = ns.map Dt.int ∧ R (.d (.int ns.sum)) M
theorem sc_sum : SC K (rSum K) (w1 wSum) := fun D M H vs ss R Q ok rs q k => by
  obtain ⟨v, s, rfl, rfl, r, q1⟩ := one_of rs q
  obtain ⟨ds, rfl, ns, rfl, q2⟩ := onLst_inv q1
  cases r with
  | lst h1 h2 =>
    have e := DqAll.ints_eq h2
    subst e
    exact ⟨_, ns, rfl, SqL.of (ok.s _ _ h1), k.here ok (s := .d (.int _)) (.int _) q2⟩
/-! list(zip(t, u)) of data -/
def pairT : List Dt → List Dt → List Dt
  | a :: r, b :: q => .tup [a, b] :: pairT r q
  | _, _ => []
theorem pairT_length : ∀ {xs ys : List Dt}, xs.length = ys.length → (pairT xs ys).length = xs.length
  | [], [], _ => rfl
  | _ :: r, _ :: q, h => by show (pairT r q).length + 1 = r.length + 1; rw [pairT_length (by simpa using h)]
theorem pairT_get : ∀ {xs ys : List Dt} {j : Nat} {z : Dt}, (pairT xs ys)[j]? = some z → ∃ a b, xs[j]? = some a ∧ ys[j]? = some b ∧ z = .tup [a, b]
  | [], _, _, _, h => by simp [pairT] at h
  | _ :: _, [], _, _, h => by simp [pairT] at h
  | a :: r, b :: q, 0, z, h => by simp [pairT] at h; exact ⟨a, b, rfl, rfl, h.symm⟩
  | a :: r, b :: q, j + 1, z, h => by
    obtain ⟨x, y, h1, h2, h3⟩ := pairT_get (xs := r) (ys := q) (j := j) (z := z) (by simpa [pairT] using h)
    exact ⟨x, y, by simpa using h1, by simpa using h2, h3⟩
theorem dqAll_of_get {D : Hp} : ∀ {vs : List V} {ds : List Dt}, vs.length = ds.length → (∀ (j : Nat) d, ds[j]? = some d → ∃ v, vs[j]? = some v ∧ Dq K D v d) → DqAll K D vs ds
  | [], [], _, _ => .nil
  | v :: vs, d :: ds, hl, h => by
    obtain ⟨x, e, r⟩ := h 0 d rfl
    simp at e
    subst e
    exact .cons r (dqAll_of_get (by simpa using hl) fun j d hd => by
      obtain ⟨x, e, r⟩ := h (j + 1) d (by simpa using hd)
      exact ⟨x, by simpa using e, r⟩)
def wLz : List S → Sto → KS → Prop := fun ss M R => match ss with | [.d (.tup xs), .d (.tup ys)] => xs.length = ys.length ∧ xs.length < sizeLine ∧ R (.d (.lst (pairT xs ys))) M | _ => False
theorem sc_lz : SC K (rLz K) wLz := fun D M H vs ss R Q ok rs q k => by
  unfold wLz at q
  split at q
  · rename_i xs ys
    cases rs with
    | cons r1 rs =>
      cases rs with
      | cons r2 rs =>
        cases rs
        cases r1 with
        | tup h1 h2 =>
          cases r2 with
          | tup g1 g2 =>
            refine ⟨_, _, _, _, rfl, Same.sqt ok.s h1, Same.sqt ok.s g1, by rw [h2.length, g2.length]; exact q.1, by rw [h2.length]; exact q.2.1, fun p ts H' hp hts ps => ?_⟩
            obtain ⟨p1, p2, p3, p4⟩ := ps
            -- what is new becomes data
            have sD : Same D (fun a => if H a = none then H' a else D a) := fun a o e => by
              show (if H a = none then H' a else D a) = some o
              rw [if_neg (by rw [ok.s a o e]; exact fun z => nomatch z)]
              exact e
            refine k _ (.d (.lst (pairT xs ys))) (fun a => if H a = none then H' a else D a) M H' sD ⟨fun a o e => ?_, fun a o e => ?_⟩ (.lst (by rw [if_pos hp]; exact hts) (dqAll_of_get ?_ fun j z hz => ?_)) q.2.2
            · by_cases hh : H a = none
              · rw [if_pos hh] at e; exact e
              · rw [if_neg hh] at e; exact p1 a o (ok.s a o e)
            · obtain ⟨a1, ho, a2, a3⟩ := ok.m a o e
              exact ⟨by rw [if_neg (by rw [a2]; exact fun z => nomatch z)]; exact a1, ho, p1 a ho a2, RM.mono sD a3⟩
            · rw [p3, h2.length, pairT_length q.1]
            · obtain ⟨a, b, ha, hb, rfl⟩ := pairT_get hz
              obtain ⟨va, ea, ra⟩ := DqAll.get h2 ha
              obtain ⟨vb, eb, rb⟩ := DqAll.get g2 hb
              obtain ⟨T, t1, t2, t3, t4⟩ := p4 j va vb (List.getElem?_eq_some_iff.mp ea).1 ea eb
              exact ⟨_, t1, .tup (.inl (.inl (by show (if H _ = none then H' _ else D _) = _; rw [if_pos t2]; exact t4))) (.cons (Dq.mono sD _ _ ra) (.cons (Dq.mono sD _ _ rb) .nil))⟩
  · exact q.elim
end
end Lw
set_option Elab.async false
set_option linter.all false
set_option maxRecDepth 100000
set_option maxHeartbeats 4000000
namespace Lw
open PySem PySem.Spec PyProof.Rows L2
section
variable {K : PySem.W.Frag}
/-! ### what is walked -/
theorem Itw.of {D : Hp} {J : It} {n : Nat} {G : Hp → Prop} {Y : Nat → Hp → V → Hp → Prop} {xs : List S} (w : Walk J n G Y) (hn : n = xs.length) (hG : ∀ H, Same D H → G H)
    (hy : ∀ i H x H' D1 M1, i < xs.length → Same D D1 → Ok K D1 M1 H → Y i H x H' → ∃ s D2, xs[i]? = some s ∧ Same D1 D2 ∧ Ok K D2 M1 H' ∧ RS K D2 x s) : Itw K D J xs := by
  subst hn
  exact ⟨fun i H hi e => w.goes i H hi (hG H e), fun H e => w.stops H (hG H e), fun i H x H' D1 M1 hi e ok y => hy i H x H' D1 M1 hi e ok (w.yields i H x H' hi (hG H (e.trans ok.s)) y)⟩
theorem itw_list {D : Hp} {a : Addr} {vs : List V} {xs : List S} (h : SqL K D a vs) (r : Paired (RS K D) vs xs) : Itw K D (Itl K a) xs :=
  Itw.of walk_list (Paired.length r) (fun H e => Same.seq e h) fun i H x H' D1 M1 hi e ok y => by
    obtain ⟨rfl, hx⟩ := y
    obtain ⟨v, hv, rv⟩ := paired_get r i xs[i] (List.getElem?_eq_getElem hi)
    rw [hx] at hv
    cases hv
    exact ⟨_, D1, List.getElem?_eq_getElem hi, Same.refl _, ok, RS.mono e rv⟩
theorem itw_tup {D : Hp} {a : Addr} {vs : List V} {xs : List S} (h : SqT K D a vs) (r : Paired (RS K D) vs xs) : Itw K D (Itt K a) xs :=
  Itw.of walk_tup (Paired.length r) (fun H e => Same.sqt e h) fun i H x H' D1 M1 hi e ok y => by
    obtain ⟨rfl, hx⟩ := y
    obtain ⟨v, hv, rv⟩ := paired_get r i xs[i] (List.getElem?_eq_getElem hi)
    rw [hx] at hv
    cases hv
    exact ⟨_, D1, List.getElem?_eq_getElem hi, Same.refl _, ok, RS.mono e rv⟩
/-- a list, the script -/
def wiList (we : WE) : WI := fun γ M R => we γ M fun s M1 => match s with | .d (.lst ds) => R (ds.map S.d) M1 | .scr ns => R (ns.map fun n => S.d (.int n)) M1 | _ => False
theorem si_list {te : TE} {we : WE} (he : SE K te we) : SI K (iList K te) (wiList we) := fun D σ γ M H R Q e ok h k =>
  he D σ γ M H _ _ e ok h fun x s D1 M1 H1 s1 ok1 rx q => by
    split at q
    · cases rx with
      | lst h1 h2 => exact ⟨_, rfl, ⟨_, SqL.of (ok1.s _ _ h1)⟩, k _ _ D1 M1 H1 s1 ok1 (itw_list (SqL.of h1) (paired_of h2)) q⟩
    · obtain ⟨a, rfl, hs⟩ := rx
      refine ⟨_, rfl, ⟨_, Same.seq ok1.s hs⟩, k _ _ D1 M1 H1 s1 ok1 (itw_list hs ?_) q⟩
      have := paired_of (DqAll.ints (K := K) (D := D1) ‹List Int›)
      rw [List.map_map] at this
      exact this
    · exact q.elim
def wiTup (we : WE) : WI := fun γ M R => we γ M fun s M1 => onTup s fun ds => R (ds.map S.d) M1
theorem si_tup {te : TE} {we : WE} (he : SE K te we) : SI K (iTup K te) (wiTup we) := fun D σ γ M H R Q e ok h k =>
  he D σ γ M H _ _ e ok h fun x s D1 M1 H1 s1 ok1 rx q => by
    obtain ⟨ds, rfl, q1⟩ := onTup_inv q
    cases rx with
    | tup h1 h2 => exact ⟨_, rfl, ⟨_, Same.sqt ok1.s h1⟩, k _ _ D1 M1 H1 s1 ok1 (itw_tup h1 (paired_of h2)) q1⟩
def signs (z : Str) : List Dt := z.cps.toList.map fun c => .str ⟨#[c]⟩
def wiStr (we : WE) : WI := fun γ M R => we γ M fun s M1 => onStr s fun z => R ((signs z).map S.d) M1
theorem si_str {te : TE} {we : WE} (he : SE K te we) : SI K (iStr te) (wiStr we) := fun D σ γ M H R Q e ok h k =>
  he D σ γ M H _ _ e ok h fun x s D1 M1 H1 s1 ok1 rx q => by
    obtain ⟨z, rfl, q1⟩ := onStr_inv q
    cases rx
    refine ⟨z, rfl, k _ _ D1 M1 H1 s1 ok1 (Itw.of walk_str (by unfold signs; simp) (fun _ _ => trivial) fun i H x H' D2 M2 hi e2 ok2 y => ?_) q1⟩
    obtain ⟨rfl, c, hc, rfl⟩ := y
    refine ⟨.d (.str ⟨#[c]⟩), D2, ?_, Same.refl _, ok2, .str _⟩
    unfold signs
    rw [List.map_map, List.getElem?_map]
    have : z.cps.toList[i]? = some c := by simpa using hc
    rw [this]
    rfl
def rgD (lo : Int) (n : Nat) (c : Int) : List Dt := (List.range n).map fun i => .int (lo + (i : Nat) * c)
theorem rgD_get {lo : Int} {n : Nat} {c : Int} {i : Nat} (h : i < n) : (rgD lo n c)[i]? = some (.int (lo + (i : Nat) * c)) := by
  unfold rgD
  rw [List.getElem?_map, List.getElem?_range h]
  rfl
theorem rgD_length {lo : Int} {n : Nat} {c : Int} : (rgD lo n c).length = n := by unfold rgD; simp
def wiRng1 (wa : WA) : WI := fun γ M R => wa γ M fun ss M1 => match ss with | [s] => onInt s fun j => -(2 ^ 62) ≤ j ∧ j < 2 ^ 62 ∧ R ((rgD 0 j.toNat 1).map S.d) M1 | _ => False
theorem itw_rng {D : Hp} {lo : Int} {n : Nat} : Itw K D (Itr lo n) ((rgD lo n 1).map S.d) :=
  Itw.of walk_range (by rw [List.length_map, rgD_length]) (fun _ _ => trivial) fun i H x H' D2 M2 hi e2 ok2 y => by
    obtain ⟨rfl, rfl⟩ := y
    rw [List.length_map, rgD_length] at hi
    refine ⟨.d (.int (lo + (i : Nat) * 1)), D2, ?_, Same.refl _, ok2, ?_⟩
    · rw [List.getElem?_map, rgD_get hi]; rfl
    · rw [Int.mul_one]; exact .int _
theorem si_rng1 {ta : TA} {wa : WA} (ha : SA K ta wa) : SI K (iRng1 ta) (wiRng1 wa) := fun D σ γ M H R Q e ok h k =>
  ha D σ γ M H _ _ e ok h fun vs ss D1 M1 H1 s1 ok1 rs q => by
    split at q
    · obtain ⟨j, rfl, q1, q2, q3⟩ := onInt_inv q
      cases rs with
      | cons r1 rs =>
        cases rs
        cases r1
        exact ⟨j, rfl, q1, q2, k _ _ D1 M1 H1 s1 ok1 itw_rng q3⟩
    · exact q.elim
def wiRng2 (wa : WA) : WI := fun γ M R => wa γ M fun ss M1 => match ss with | [s, u] => onInt s fun i => onInt u fun j => (-(2 ^ 62) ≤ i ∧ i < 2 ^ 62 ∧ -(2 ^ 62) ≤ j ∧ j < 2 ^ 62) ∧ R ((rgD i (j - i).toNat 1).map S.d) M1 | _ => False
theorem si_rng2 {ta : TA} {wa : WA} (ha : SA K ta wa) : SI K (iRng2 ta) (wiRng2 wa) := fun D σ γ M H R Q e ok h k =>
  ha D σ γ M H _ _ e ok h fun vs ss D1 M1 H1 s1 ok1 rs q => by
    split at q
    · obtain ⟨i, rfl, q0⟩ := onInt_inv q
      obtain ⟨j, rfl, q1, q3⟩ := onInt_inv q0
      cases rs with
      | cons r1 rs =>
        cases rs with
        | cons r2 rs =>
          cases rs
          cases r1
          cases r2
          exact ⟨i, j, rfl, q1, k _ _ D1 M1 H1 s1 ok1 itw_rng q3⟩
    · exact q.elim
def wiRng3 (wa : WA) : WI := fun γ M R => wa γ M fun ss M1 => match ss with | [s, u, x] => onInt s fun i => onInt u fun j => onInt x fun c => ∃ n, RgC i j c n ∧ R ((rgD i n c).map S.d) M1 | _ => False
theorem si_rng3 {ta : TA} {wa : WA} (ha : SA K ta wa) : SI K (iRng3 ta) (wiRng3 wa) := fun D σ γ M H R Q e ok h k =>
  ha D σ γ M H _ _ e ok h fun vs ss D1 M1 H1 s1 ok1 rs q => by
    split at q
    · obtain ⟨i, rfl, q0⟩ := onInt_inv q
      obtain ⟨j, rfl, q1⟩ := onInt_inv q0
      obtain ⟨c, rfl, n, q2, q3⟩ := onInt_inv q1
      cases rs with
      | cons r1 rs =>
        cases rs with
        | cons r2 rs =>
          cases rs with
          | cons r3 rs =>
            cases rs
            cases r1
            cases r2
            cases r3
            refine ⟨i, j, c, n, rfl, q2, k _ _ D1 M1 H1 s1 ok1 (Itw.of walk_rangeC (by rw [List.length_map, rgD_length]) (fun _ _ => trivial) fun i H x H' D2 M2 hi e2 ok2 y => ?_) q3⟩
            obtain ⟨rfl, rfl⟩ := y
            rw [List.length_map, rgD_length] at hi
            exact ⟨.d (.int _), D2, by rw [List.getElem?_map, rgD_get hi]; rfl, Same.refl _, ok2, .int _⟩
    · exact q.elim
def enD : Nat → List Dt → List Dt
  | _, [] => []
  | n, d :: r => .tup [.int (n : Nat), d] :: enD (n + 1) r
theorem enD_length : ∀ {ds : List Dt} {n : Nat}, (enD n ds).length = ds.length
  | [], _ => rfl
  | _ :: r, n => by show (enD (n + 1) r).length + 1 = r.length + 1; rw [enD_length]
theorem enD_get : ∀ {ds : List Dt} {n i : Nat} {d : Dt}, ds[i]? = some d → (enD n ds)[i]? = some (.tup [.int ((n + i : Nat) : Int), d])
  | d :: r, n, 0, x, h => by simp at h; subst h; rfl
  | d :: r, n, i + 1, x, h => by
    have := enD_get (ds := r) (n := n + 1) (i := i) (d := x) (by simpa using h)
    show (enD (n + 1) r)[i]? = _
    rw [this, show n + 1 + i = n + (i + 1) by omega]
def wiEnT (wa : WA) : WI := fun γ M R => wa γ M fun ss M1 => match ss with | [s] => onTup s fun ds => R ((enD 0 ds).map S.d) M1 | _ => False
theorem si_enT {ta : TA} {wa : WA} (ha : SA K ta wa) : SI K (iEnumT K ta) (wiEnT wa) := fun D σ γ M H R Q e ok h k =>
  ha D σ γ M H _ _ e ok h fun vs ss D1 M1 H1 s1 ok1 rs q => by
    split at q
    · obtain ⟨ds, rfl, q1⟩ := onTup_inv q
      cases rs with
      | cons r1 rs =>
        cases rs
        cases r1 with
        | tup h1 h2 =>
          refine ⟨_, _, rfl, Same.sqt ok1.s h1, k _ _ D1 M1 H1 s1 ok1 (Itw.of walk_enumT (by rw [List.length_map, enD_length, h2.length]) (fun H e => Same.sqt e h1) fun i H x H' D2 M2 hi e2 ok2 y => ?_) q1⟩
          obtain ⟨T, x1, y1, rfl, hT, rfl, hx, hy⟩ := y
          cases hx
          rw [List.length_map, enD_length] at hi
          obtain ⟨v, hv, rv⟩ := DqAll.get h2 (List.getElem?_eq_getElem hi)
          have ev : some y1 = some v := Eq.trans (Eq.symm hy) hv
          cases ev
          have s3 : Same D2 (upd D2 T (.tup [.int (i : Nat), y1])) := Same.new (ok2.dnone hT)
          refine ⟨.d (.tup [.int ((0 + i : Nat) : Int), ds[i]]), _, ?_, s3, ok2.newD hT _, .tup (.inl (.inl upd_same)) (.cons ?_ (.cons (Dq.mono (e2.trans s3) _ _ rv) .nil))⟩
          · rw [List.getElem?_map, enD_get (List.getElem?_eq_getElem hi)]; rfl
          · rw [Nat.zero_add]; exact .int _
    · exact q.elim
def wiZip (wa : WA) : WI := fun γ M R => wa γ M fun ss M1 => match ss with
  | [.d (.tup xs), .d (.tup ys)] => xs.length = ys.length ∧ R ((pairT xs ys).map S.d) M1
  | [.d (.lst xs), .d (.lst ys)] => xs.length = ys.length ∧ R ((pairT xs ys).map S.d) M1
  | _ => False
/-! ### methods of lists and texts, items stored -/
def wApp (wo we : WE) : WE := fun γ M R => wo γ M fun x M1 => we γ M1 fun y M2 => match x with | .a p => ∃ xs : List S, M2 p = some (.lst xs) ∧ xs.length < sizeLine ∧ R (.d .non) (put M2 p (.lst (xs ++ [y]))) | _ => False
theorem se_app {to te : TE} {wo we : WE} (ho : SE K to wo) (he : SE K te we) (hm : ∀ γ M (P : S → Sto → Prop), wo γ M P → wo γ M fun s M1 => (∃ p xs, s = .a p ∧ M1 p = some (.lst xs)) ∧ P s M1) : SE K (tBM K "list" rAppend to (tCons te tNil)) (wApp wo we) := fun D σ γ M H R Q e ok h k =>
  ho D σ γ M H _ _ e ok (hm _ _ _ h) fun x s D1 M1 H1 s1 ok1 rx ⟨⟨p, xs0, es, hm0⟩, q⟩ => by
    subst es
    cases (show x = V.ref p from rx)
    obtain ⟨vs0, hp0, _⟩ := ok1.lst hm0
    refine ⟨Or.inl ⟨rfl, _, SqL.of hp0⟩, he D1 σ γ M1 H1 _ _ (e.mono s1) ok1 q fun y u D2 M2 H2 s2 ok2 ry ⟨xs, hx, hz, q2⟩ => ?_⟩
    obtain ⟨vs, hp, hv⟩ := ok2.lst hx
    refine ⟨p, vs, y, rfl, rfl, hp, by rw [Paired.length hv]; exact hz, k _ (.d .non) D2 _ _ (s1.trans s2) (ok2.set hx ⟨vs ++ [y], rfl, Paired.snoc hv ry⟩) .non q2⟩
/-- what stands at a name, or at a place of a list, is a list to be changed -/
def wMut (wo : WE) : WE := fun γ M R => wo γ M fun s M1 => (∃ p xs, s = .a p ∧ M1 p = some (.lst xs)) ∧ R s M1
theorem se_mut {to : TE} {wo : WE} (ho : SE K to wo) : SE K to (wMut wo) := fun D σ γ M H R Q e ok h k => ho D σ γ M H _ _ e ok h fun x s D1 M1 H1 s1 ok1 rx q => k x s D1 M1 H1 s1 ok1 rx q.2
theorem se_appM {to te : TE} {wo we : WE} (ho : SE K to wo) (he : SE K te we) : SE K (tBM K "list" rAppend to (tCons te tNil)) (wApp (wMut wo) we) := fun D σ γ M H R Q e ok h k =>
  ho D σ γ M H _ _ e ok h fun x s D1 M1 H1 s1 ok1 rx ⟨⟨p, xs0, es, hm0⟩, q⟩ => by
    subst es
    cases (show x = V.ref p from rx)
    obtain ⟨vs0, hp0, _⟩ := ok1.lst hm0
    refine ⟨Or.inl ⟨rfl, _, SqL.of hp0⟩, he D1 σ γ M1 H1 _ _ (e.mono s1) ok1 q fun y u D2 M2 H2 s2 ok2 ry ⟨xs, hx, hz, q2⟩ => ?_⟩
    obtain ⟨vs, hp, hv⟩ := ok2.lst hx
    refine ⟨p, vs, y, rfl, rfl, hp, by rw [Paired.length hv]; exact hz, k _ (.d .non) D2 _ _ (s1.trans s2) (ok2.set hx ⟨vs ++ [y], rfl, Paired.snoc hv ry⟩) .non q2⟩
theorem paired_snoc_inv {D : Hp} : ∀ {xs : List S} {y : S} {vs : List V}, Paired (RS K D) vs (xs ++ [y]) → ∃ us v, vs = us ++ [v] ∧ Paired (RS K D) us xs ∧ RS K D v y
  | [], y, _, h => by
    cases h with
    | cons r t => cases t; exact ⟨[], _, rfl, .nil, r⟩
  | x :: xs, y, _, h => by
    cases h with
    | cons r t =>
      obtain ⟨us, v, e, p, q⟩ := paired_snoc_inv t
      exact ⟨_ :: us, v, by rw [e]; rfl, .cons r p, q⟩
def wPop (wo : WE) : WE := fun γ M R => wo γ M fun x M1 => match x with | .a p => ∃ (xs : List S) (y : S), M1 p = some (.lst (xs ++ [y])) ∧ R y (put M1 p (.lst xs)) | _ => False
theorem se_pop {to : TE} {wo : WE} (ho : SE K to wo) : SE K (tBM0 K "list" rPop to) (wPop wo) := fun D σ γ M H R Q e ok h k =>
  ho D σ γ M H _ _ e ok h fun x s D1 M1 H1 s1 ok1 rx q => by
    split at q
    · obtain ⟨xs, y, hx, q⟩ := q
      cases (show x = V.ref _ from rx)
      obtain ⟨vs, hp, hv⟩ := ok1.lst hx
      obtain ⟨us, v, e1, r1, r2⟩ := paired_snoc_inv hv
      subst e1
      refine ⟨Or.inl ⟨rfl, _, SqL.of hp⟩, _, us ++ [v], v, rfl, rfl, hp, by simp, ?_⟩
      rw [List.dropLast_concat]
      exact k _ _ D1 _ _ s1 (ok1.set hx ⟨us, rfl, r1⟩) r2 q
    · exact q.elim
def wgSub (wo wi : WE) : WG := fun s γ M R => wo γ M fun o M1 => wi γ M1 fun i M2 => onInt i fun j => match o with | .a p => ∃ (xs : List S) (m : Nat), M2 p = some (.lst xs) ∧ ixN xs.length j = some m ∧ R γ (put M2 p (.lst (xs.set m s))) | _ => False
theorem paired_set {D : Hp} {v : V} {s : S} (r : RS K D v s) : ∀ {vs : List V} {ss : List S} (i : Nat), Paired (RS K D) vs ss → Paired (RS K D) (vs.set i v) (ss.set i s)
  | _, _, _, .nil => .nil
  | _, _, 0, .cons _ t => .cons r t
  | _, _, i + 1, .cons q t => .cons q (paired_set r i t)
theorem sg_sub {to ti : TE} {wo wi : WE} (ho : SE K to wo) (hi : SE K ti wi) : SG K (gSub to ti rSetL) (wgSub wo wi) := fun D σ γ M H v s R Q e ok r q k =>
  ho D σ γ M H _ _ e ok q fun x o D1 M1 H1 s1 ok1 rx q1 => hi D1 σ γ M1 H1 _ _ (e.mono s1) ok1 q1 fun y i D2 M2 H2 s2 ok2 ry q2 => by
    obtain ⟨j, rfl, q3⟩ := onInt_inv q2
    split at q3
    · obtain ⟨xs, m, hm, hx, q4⟩ := q3
      cases ry
      cases (show x = V.ref _ from rx)
      obtain ⟨vs, hp, hv⟩ := ok2.lst hm
      have r2 := (r.mono s1).mono s2
      exact ⟨_, vs, j, m, rfl, rfl, hp, by rw [Paired.length hv]; exact hx, k σ γ D2 _ _ (s1.trans s2) (ok2.set hm ⟨vs.set m v, rfl, paired_set r2 m hv⟩) ((e.mono s1).mono s2) q4⟩
    · exact q3.elim
def wJoin (wo we : WE) : WE := fun γ M R => wo γ M fun x M1 => we γ M1 fun y M2 => onStr x fun a => onLst y fun ds => ∃ ys : List Str, ds = ys.map Dt.str ∧ (ys.map (·.length)).sum + ys.length * a.length ≤ 16777216 ∧ R (.d (.str (Txt.join a ys))) M2
def wStr1 (wo : WE) : WE := fun γ M R => wo γ M fun s M1 => (∃ z, s = .d (.str z)) ∧ R s M1
theorem se_join {to te : TE} {wo we : WE} (ho : SE K to wo) (he : SE K te we) : SE K (tM1 (fun x xs H Q => ∃ a p, ∃ ys : List Str, x = .str a ∧ xs = [.ref p] ∧ (SqL K H p (ys.map V.str) ∨ SqT K H p (ys.map V.str)) ∧
      (ys.map (·.length)).sum + ys.length * a.length ≤ 16777216 ∧ Q (.str (Txt.join a ys)) H) to te) (wJoin (wStr1 wo) we) := fun D σ γ M H R Q e ok h k =>
  ho D σ γ M H _ _ e ok h fun x s D1 M1 H1 s1 ok1 rx ⟨⟨z, es⟩, q⟩ => by
    subst es
    cases rx
    refine ⟨⟨z, rfl⟩, he D1 σ γ M1 H1 _ _ (e.mono s1) ok1 q fun y u D2 M2 H2 s2 ok2 ry q2 => ?_⟩
    obtain ⟨a, ea, q3⟩ := onStr_inv q2
    cases ea
    obtain ⟨ds, rfl, ys, rfl, hz, q4⟩ := onLst_inv q3
    cases ry with
    | lst h1 h2 =>
      have e2 := DqAll.strs_eq h2
      subst e2
      exact ⟨_, _, ys, rfl, rfl, .inl (SqL.of (ok2.s _ _ h1)), hz, (k.at (s1.trans s2)).here ok2 (s := .d (.str _)) (.str _) q4⟩
def wIndex (wo we : WE) : WE := fun γ M R => wo γ M fun x M1 => we γ M1 fun y M2 => onLst x fun ds => onD y fun d => ds.all flatD = true ∧ flatD d = true ∧ ∃ (j : Nat) (z : Dt), ds[j]? = some z ∧ eqV (toV z) (toV d) = true ∧ (∀ (m : Nat) z', m < j → ds[m]? = some z' → eqV (toV z') (toV d) = false) ∧ R (.d (.int (j : Nat))) M2
def wLst1 (wo : WE) : WE := fun γ M R => wo γ M fun s M1 => (∃ z, s = .d (.lst z)) ∧ R s M1
theorem se_index {to te : TE} {wo we : WE} (ho : SE K to wo) (he : SE K te we) : SE K (tBM K "list" (rIndex K) to (tCons te tNil)) (wIndex (wLst1 wo) we) := fun D σ γ M H R Q e ok h k =>
  ho D σ γ M H _ _ e ok h fun x s D1 M1 H1 s1 ok1 rx ⟨⟨z, es⟩, q⟩ => by
    subst es
    cases rx with
    | lst h1 h2 =>
      refine ⟨Or.inl ⟨rfl, _, SqL.of (ok1.s _ _ h1)⟩, he D1 σ γ M1 H1 _ _ (e.mono s1) ok1 q fun y u D2 M2 H2 s2 ok2 ry q2 => ?_⟩
      obtain ⟨ds, ed, q3⟩ := onLst_inv q2
      cases ed
      obtain ⟨d, rfl, f1, f2, j, w, hj, he1, hm, q4⟩ := onD_inv q3
      obtain ⟨e3, e4⟩ := toV_all f1 h2
      obtain ⟨e5, e6⟩ := toV_of f2 ry
      refine ⟨_, _, y, j, toV w, rfl, rfl, SqL.of (ok2.s _ _ (s2 _ _ h1)), e6, e4, by rw [e3, List.getElem?_map, hj]; rfl, by rw [e5]; exact he1, fun m z' hl hz => ?_, (k.at (s1.trans s2)).here ok2 (s := .d (.int _)) (.int _) q4⟩
      rw [e3, List.getElem?_map] at hz
      cases hq : z[m]? with
      | none => rw [hq] at hz; cases hz
      | some t =>
        rw [hq] at hz
        cases hz
        rw [e5]
        exact hm m t hl hq
/-! ### isinstance -/
def tyName : Dt → String | .non => "NoneType" | .bl _ => "bool" | .int _ => "int" | .str _ => "str" | .lst _ => "list" | .tup _ => "tuple"
theorem ty_of {D H : Hp} {v : V} {d : Dt} (e : Same D H) (r : Dq K D v d) : TyX K H v (.type (tyName d)) := by
  cases r with
  | non => exact .base .non
  | bl b => exact .base (.bl b)
  | int i => exact .base (.int i)
  | str x => exact .base (.str x)
  | lst h _ => exact .base (.lst (e _ _ h))
  | tup h _ =>
    rcases Same.sqt e h with (h | ⟨o, h⟩) | ⟨o, its, n, h, c, _⟩
    · exact .base (.tup h)
    · exact .fTuple h
    · exact .kTuple h c
/-- isinstance(x, c): what it answers of data -/
def wIsi (f : Dt → Bool) (wa : WE) : WE := fun γ M R => wa γ M fun x M1 => onD x fun d => R (.d (.bl (f d))) M1
theorem se_isi {f : Dt → Bool} {c : V} {u : Value} {ta : TE} {wa : WE} (ha : SE K ta wa) (hc : ClsV c u) (hf : ∀ d, PySem.W.kitOne K (.type (tyName d)) u = some (f d)) : SE K (tCB (rIsi K) (tCons ta (tCons (tC c) tNil))) (wIsi f wa) := fun D σ γ M H R Q e ok h k =>
  ha D σ γ M H _ _ e ok h fun x s D1 M1 H1 s1 ok1 rx q => by
    obtain ⟨d, rfl, q1⟩ := onD_inv q
    exact ⟨x, c, _, u, f d, rfl, hc, ty_of ok1.s rx, hf d, (k.at s1).here ok1 (s := .d (.bl _)) (.bl _) q1⟩
theorem se_isiT {f : Dt → Bool} {cs : List V} {us : List Value} {ta : TE} {tc : TA} {wa : WE} (ha : SE K ta wa) (hc : Paired ClsV cs us) (hl : cs.length ≤ sizeLine) (htc : ∀ σ H Q, Q cs H → tc σ H Q) (hf : ∀ d, PySem.W.kitAny K (.type (tyName d)) us = some (f d)) : SE K (tCB (rIsiT K) (tCons ta (tCons (tTup tc) tNil))) (wIsi f wa) := fun D σ γ M H R Q e ok h k =>
  ha D σ γ M H _ _ e ok h fun x s D1 M1 H1 s1 ok1 rx q => by
    obtain ⟨d, rfl, q1⟩ := onD_inv q
    refine htc σ H1 _ ⟨hl, fun p hp => ?_⟩
    have ok2 := ok1.newD hp (.tup cs)
    have s2 : Same D1 (upd D1 p (.tup cs)) := Same.new (ok1.dnone hp)
    exact ⟨x, p, cs, _, us, f d, rfl, upd_same, hc, ty_of ok2.s (Dq.mono s2 _ _ rx), hf d, (k.at (s1.trans s2)).here ok2 (s := .d (.bl _)) (.bl _) q1⟩
end

/-! ### the judgements, told of data -/
structure DE (X : Cx) (e : Expr) (w : WE) : Prop where
  ex : ∃ t, PE X e t ∧ SE X.K t w
structure DT (X : Cx) (e : Expr) (w : WT) : Prop where
  ex : ∃ t, PT X e t ∧ ST X.K t w
structure DW (X : Cx) (e : Expr) (w : WT) : Prop where
  ex : ∃ t, PW X e t ∧ ST X.K t w
structure DA (X : Cx) (e : List Expr) (w : WA) : Prop where
  ex : ∃ t, PA X e t ∧ SA X.K t w
structure DS (X : Cx) (e : Stmt) (w : WS) : Prop where
  ex : ∃ t, PS X e t ∧ SS X.K t w
structure DSs (X : Cx) (e : List Stmt) (w : WS) : Prop where
  ex : ∃ t, PSs X e t ∧ SS X.K t w
structure DG (X : Cx) (e : Expr) (w : WG) : Prop where
  ex : ∃ t, PG X e t ∧ SG X.K t w
structure DGs (X : Cx) (e : List Expr) (w : WGs) : Prop where
  ex : ∃ t, PGs X e t ∧ SGs X.K t w
structure DI (X : Cx) (tg e : Expr) (w : WI) : Prop where
  ex : ∃ t, PI X tg e t ∧ SI X.K t w
structure DO (X : Cx) (e : Option Expr) (w : WO) : Prop where
  ex : ∃ t, PO X e t ∧ SO X.K t w
section
variable {X : Cx} {a b c e : Expr} {wa wb we : WE} {wt wu : WT} {pos p1 p2 p3 p4 : Pos}
theorem dv (i : Nat) {x : Str} (hN : X.N[i]? = some x := by rfl) (hv : Vis X.env.scope x := by first | exact Or.inl rfl | exact Or.inr (Or.inl rfl) | exact Or.inr (Or.inr rfl)) (hd : (x == ("__debug__" : Str)) = false := by decide)
    (hcd : (x == ("__classdict__" : Str)) = false := by decide) : DE X (.Name x pos) (wVar i) := ⟨_, pe_var hN hv hd hcd, se_var i⟩
theorem d_fz (h : DE X e we) : DE X e (wFz we) := let ⟨t, a, b⟩ := h.ex; ⟨t, a, se_fz b⟩
theorem d_int {n : Int} {k : Nat} : DE X (.Constant (.int n) k pos) (wC (.int n)) := ⟨_, pe_int, se_c fun _ => .int n⟩
theorem d_str {n} {k : Nat} : DE X (.Constant (.str n) k pos) (wC (.str n)) := ⟨_, pe_str, se_c fun _ => .str n⟩
theorem d_bl {n : Bool} {k : Nat} : DE X (.Constant (.bool n) k pos) (wC (.bl n)) := ⟨_, pe_bl, se_c fun _ => .bl n⟩
theorem d_non {k : Nat} : DE X (.Constant .none k pos) (wC .non) := ⟨_, pe_non, se_c fun _ => .non⟩
theorem d_glob {x : Str} {v : V} {u : Value} {d : Dt} (hg : Gl X x) (hm : X.mg x = some u) (r : RelV v u) (q : ∀ D, Dq X.K D v d) (hd : (x == ("__debug__" : Str)) = false := by decide) : DE X (.Name x pos) (wC d) := ⟨_, pe_glob hg hm r hd, se_c q⟩
theorem d_bin {op : Operator} {r : R2} {wr} (ho : OpR X (binaryOp op) r) (hr : SR X.K r wr) (ha : DE X a wa) (hb : DE X b wb) : DE X (.BinOp a op b pos) (wOp wr wa wb) :=
  let ⟨_, a1, a2⟩ := ha.ex; let ⟨_, b1, b2⟩ := hb.ex; ⟨_, pe_op ho a1 b1, se_op hr a2 b2⟩
theorem d_add (ha : DE X a wa) (hb : DE X b wb) : DE X (.BinOp a .Add b pos) (wOp wPlus wa wb) := d_bin op_plus sr_plus ha hb
theorem d_addM (ha : DE X a wa) (hb : DE X b wb) : DE X (.BinOp a .Add b pos) (wOp wPlusM wa wb) := d_bin op_cat sr_plusM ha hb
theorem d_sub (ha : DE X a wa) (hb : DE X b wb) : DE X (.BinOp a .Sub b pos) (wOp (wI2 fun i j => .int (i - j)) wa wb) := d_bin op_sub (sr_I0 fun _ _ _ => .int _) ha hb
theorem d_mul (ha : DE X a wa) (hb : DE X b wb) : DE X (.BinOp a .Mult b pos) (wOp wMul wa wb) := d_bin op_mulA sr_mul ha hb
theorem d_mod (ha : DE X a wa) (hb : DE X b wb) : DE X (.BinOp a .Mod b pos) (wOp (wI2c (fun _ j => 0 < j) fun i j => .int (i % j)) wa wb) := d_bin op_mod (sr_I fun _ _ _ => .int _) ha hb
theorem d_div (ha : DE X a wa) (hb : DE X b wb) : DE X (.BinOp a .FloorDiv b pos) (wOp (wI2c CDivW fun i j => .int (i / j)) wa wb) := d_bin op_fdivW (sr_I fun _ _ _ => .int _) ha hb
theorem d_pow (ha : DE X a wa) (hb : DE X b wb) : DE X (.BinOp a .Pow b pos) (wOp (wI2c CPow fun i j => .int (i ^ j.toNat)) wa wb) := d_bin op_pow (sr_I fun _ _ _ => .int _) ha hb
theorem sr_repT {K : PySem.W.Frag} : SR K (rRepT K) wMulT := fun D M H x y s u R Q ok rx ry q k => by
  unfold wMulT at q
  split at q
  · rename_i ds j
    cases ry
    cases rx with
    | tup h1 h2 =>
      refine ⟨_, _, _, rfl, rfl, Same.sqt ok.s h1, fun z => ?_, q.2.1, q.2.2.1, by rw [h2.length]; exact q.2.2.2.1, fun p hp => k.newT ok (DqAll.rep h2 _) q.2.2.2.2 hp⟩
      subst z
      cases h2
      exact q.1 rfl
  · exact q.elim
theorem d_mulT (ha : DE X a wa) (hb : DE X b wb) : DE X (.BinOp a .Mult b pos) (wOp wMulT wa wb) := d_bin op_repT sr_repT ha hb
theorem d_cmp {op : CmpOp} {r : R2} {wr} (ho : OpR X (compareOp op) r) (hr : SR X.K r wr) (ha : DE X a wa) (hb : DE X b wb) (hm : behindInMarks op b = false) : DE X (.Compare a [op] [b] pos) (wOp wr wa wb) :=
  let ⟨_, a1, a2⟩ := ha.ex; let ⟨_, b1, b2⟩ := hb.ex; ⟨_, pe_cmpR ho a1 b1 hm, se_op hr a2 b2⟩
theorem d_lt (ha : DE X a wa) (hb : DE X b wb) : DE X (.Compare a [.Lt] [b] pos) (wOp (wI2 fun i j => .bl (decide (i < j))) wa wb) := d_cmp op_lt (sr_I0 fun _ _ _ => .bl _) ha hb (nomark _)
theorem d_le (ha : DE X a wa) (hb : DE X b wb) : DE X (.Compare a [.LtE] [b] pos) (wOp (wI2 fun i j => .bl (decide (i ≤ j))) wa wb) := d_cmp op_le (sr_I0 fun _ _ _ => .bl _) ha hb (nomark _)
theorem d_gt (ha : DE X a wa) (hb : DE X b wb) : DE X (.Compare a [.Gt] [b] pos) (wOp (wI2 fun i j => .bl (decide (j < i))) wa wb) := d_cmp op_gt (sr_I0 fun _ _ _ => .bl _) ha hb (nomark _)
theorem d_ge (ha : DE X a wa) (hb : DE X b wb) : DE X (.Compare a [.GtE] [b] pos) (wOp (wI2 fun i j => .bl (decide (j ≤ i))) wa wb) := d_cmp op_ge (sr_I0 fun _ _ _ => .bl _) ha hb (nomark _)
theorem d_eq (ha : DE X a wa) (hb : DE X b wb) : DE X (.Compare a [.Eq] [b] pos) (wOp wEq wa wb) := d_cmp op_eq sr_eq ha hb (nomark _)
theorem d_ne (ha : DE X a wa) (hb : DE X b wb) : DE X (.Compare a [.NotEq] [b] pos) (wOp wNe wa wb) := d_cmp op_ne sr_ne ha hb (nomark _)
theorem d_in (ha : DE X a wa) (hb : DE X b wb) (hm : behindInMarks .In b = false) : DE X (.Compare a [.In] [b] pos) (wOp (wIn false) wa wb) := d_cmp op_in_seq (sr_in false) ha hb hm
theorem d_notin (ha : DE X a wa) (hb : DE X b wb) (hm : behindInMarks .NotIn b = false) : DE X (.Compare a [.NotIn] [b] pos) (wOp (wIn true) wa wb) := d_cmp op_notIn_seq (sr_in true) ha hb hm
theorem d_isN {k : Nat} (ha : DE X a wa) : DE X (.Compare a [.Is] [.Constant .none k p1] pos) (wIsN wa) := let ⟨_, a1, a2⟩ := ha.ex; ⟨_, pe_cmpR op_isN a1 pe_non (nomark _), se_isN a2⟩
theorem d_notN {k : Nat} (ha : DE X a wa) : DE X (.Compare a [.IsNot] [.Constant .none k p1] pos) (wNotN wa) := let ⟨_, a1, a2⟩ := ha.ex; ⟨_, pe_cmpR op_notN a1 pe_non (nomark _), se_notN a2⟩
theorem d_isB {v : Bool} {k : Nat} (ha : DE X a wa) : DE X (.Compare a [.Is] [.Constant (.bool v) k p1] pos) (wIsB v wa) := let ⟨_, a1, a2⟩ := ha.ex; ⟨_, pe_cmpR op_isBool a1 pe_bl (nomark _), se_isB a2⟩
/-! tests -/
theorem t_val (h : DE X e we) (he : ∀ whole, isTrue e X.env whole = (do let v ← whole; standAt e.pos; holding [v] (truthy v)) := by intro _; rfl) : DT X e (wTest we) := let ⟨_, a1, a2⟩ := h.ex; ⟨_, pt_val a1 he, st_tt a2⟩
theorem t_not (h : DT X e wt) : DT X (.UnaryOp .Not e pos) (wNot wt) := let ⟨_, a1, a2⟩ := h.ex; ⟨_, pt_not a1, st_not a2⟩
theorem t_and1 (h : DT X e wt) : DW X (.BoolOp .And [e] pos) wt := let ⟨_, a1, a2⟩ := h.ex; ⟨_, pw_and1 a1, a2⟩
theorem t_or1 (h : DT X e wt) : DW X (.BoolOp .Or [e] pos) wt := let ⟨_, a1, a2⟩ := h.ex; ⟨_, pw_or1 a1, a2⟩
theorem t_and {r : List Expr} (h : DT X e wt) (g : DW X (.BoolOp .And (b :: r) pos) wu) : DW X (.BoolOp .And (e :: b :: r) pos) (wAnd wt wu) := let ⟨_, a1, a2⟩ := h.ex; let ⟨_, b1, b2⟩ := g.ex; ⟨_, pw_and a1 b1, st_and a2 b2⟩
theorem t_or {r : List Expr} (h : DT X e wt) (g : DW X (.BoolOp .Or (b :: r) pos) wu) : DW X (.BoolOp .Or (e :: b :: r) pos) (wOr wt wu) := let ⟨_, a1, a2⟩ := h.ex; let ⟨_, b1, b2⟩ := g.ex; ⟨_, pw_or a1 b1, st_or a2 b2⟩
theorem t_w (h : DW X e wt) : DT X e wt := let ⟨_, a1, a2⟩ := h.ex; ⟨_, PW.pt a1, a2⟩
theorem d_one {op} (h : DE X e we) : DE X (.BoolOp op [e] pos) we := let ⟨_, a1, a2⟩ := h.ex; ⟨_, pe_one a1, a2⟩
theorem d_and {r : List Expr} (h : DE X e we) (g : DE X (.BoolOp .And (b :: r) pos) wb) : DE X (.BoolOp .And (e :: b :: r) pos) (wAndV we wb) := let ⟨_, a1, a2⟩ := h.ex; let ⟨_, b1, b2⟩ := g.ex; ⟨_, pe_and a1 b1, se_andV a2 b2⟩
theorem d_or {r : List Expr} (h : DE X e we) (g : DE X (.BoolOp .Or (b :: r) pos) wb) : DE X (.BoolOp .Or (e :: b :: r) pos) (wOrV we wb) := let ⟨_, a1, a2⟩ := h.ex; let ⟨_, b1, b2⟩ := g.ex; ⟨_, pe_or a1 b1, se_orV a2 b2⟩
theorem d_not (h : DE X e we) : DE X (.UnaryOp .Not e pos) (wNotV we) := let ⟨_, a1, a2⟩ := h.ex; ⟨_, pe_not a1, se_notV a2⟩
theorem d_ifE (hc : DT X c wt) (ha : DE X a wa) (hb : DE X b wb) : DE X (.IfExp c a b pos) (wIfE wt wa wb) := let ⟨_, c1, c2⟩ := hc.ex; let ⟨_, a1, a2⟩ := ha.ex; let ⟨_, b1, b2⟩ := hb.ex; ⟨_, pe_ifExp c1 a1 b1, se_if c2 a2 b2⟩
/-! arguments, displays -/
variable {es : List Expr} {wr ws : WA}
theorem a_nil : DA X [] wNil := ⟨_, pa_nil, sa_nil⟩
theorem a_cons (ha : DE X e we) (hr : DA X es wr) (hs : starEach (e :: es) X.env = (false, eval e X.env) :: starEach es X.env := by rfl) : DA X (e :: es) (wCons we wr) := let ⟨_, a1, a2⟩ := ha.ex; let ⟨_, b1, b2⟩ := hr.ex; ⟨_, pa_cons a1 b1 hs, sa_cons a2 b2⟩
theorem d_tup {k : Nat} (h : DA X es wr) : DE X (.Tuple es k pos) (wTup wr) := let ⟨_, a1, a2⟩ := h.ex; ⟨_, pe_tup a1, se_tup a2⟩
theorem d_lst (h : DA X es wr) : DE X (.List es pos) (wLst wr) := let ⟨_, a1, a2⟩ := h.ex; ⟨_, pe_lst a1, se_lst a2⟩
theorem d_lstM (h : DA X es wr) : DE X (.List es pos) (wLstM wr) := let ⟨_, a1, a2⟩ := h.ex; ⟨_, pe_lst a1, se_lstM a2⟩
theorem d_ix (ha : DE X a wa) (hb : DE X b wb) (hs : PlainIx b := by exact fun _ _ => rfl) : DE X (.Subscript a b pos) (wOp wIx wa wb) := let ⟨_, a1, a2⟩ := ha.ex; let ⟨_, b1, b2⟩ := hb.ex; ⟨_, pe_ix ix_seq a1 b1 hs, se_op sr_ix a2 b2⟩
theorem o_no : DO X none wNoP := ⟨_, po_none, so_no⟩
theorem o_some (h : DE X e we) : DO X (some e) (wPart we) := let ⟨_, a1, a2⟩ := h.ex; ⟨_, po_some a1, so_part a2⟩
theorem d_sl {lo hi : Option Expr} {wl wh : WO} (he : DE X e we) (hl : DO X lo wl) (hh : DO X hi wh) : DE X (.Subscript e (.Slice lo hi none p2) pos) (wSl we wl wh) := let ⟨_, a1, a2⟩ := he.ex; let ⟨_, b1, b2⟩ := hl.ex; let ⟨_, c1, c2⟩ := hh.ex; ⟨_, pe_slice sl_any a1 b1 c1, se_sl a2 b2 c2⟩
theorem d_rev {k : Nat} (he : DE X e we) : DE X (.Subscript e (.Slice none none (some (.UnaryOp .USub (.Constant (.int 1) k p1) p2)) p3) pos) (wRev we) := let ⟨_, a1, a2⟩ := he.ex; ⟨_, pe_revL a1, se_rev a2⟩
theorem d_revM {k : Nat} (he : DE X e we) : DE X (.Subscript e (.Slice none none (some (.UnaryOp .USub (.Constant (.int 1) k p1) p2)) p3) pos) (wRevM we) := let ⟨_, a1, a2⟩ := he.ex; ⟨_, pe_revL a1, se_revM a2⟩
/-! calls of built-ins -/
theorem d_callB {id : String} {x : Str} {r : List V → Hp → VK → Prop} {wf} (hc : CallR X (.builtin id) r) (hr : SC X.K r wf) (hg : Gl X x) (hm : X.mg x = none) (hv : bootBuiltins x = some (.builtin id)) (ha : DA X (e :: es) wr) (hn : x ≠ "__name__" := by decide) (hdb : (x == ("__debug__" : Str)) = false := by decide)
    (he : starEach (e :: es) X.env = (false, eval e X.env) :: starEach es X.env := by rfl) (hpl : (backTo pos (starEach es X.env)).any (·.1) = false := by rfl) : DE X (.Call (.Name x p1) (e :: es) [] pos) (wCB wf wr) :=
  let ⟨_, a1, a2⟩ := ha.ex; ⟨_, pe_callB hc hg hm hv a1 hn hdb he hpl, se_cb hr a2⟩
theorem d_callT {T : String} {x : Str} {r : List V → Hp → VK → Prop} {wf} (hc : CallR X (.type T) r) (hr : SC X.K r wf) (hg : Gl X x) (hm : X.mg x = none) (hv : bootBuiltins x = some (.type T)) (ha : DA X (e :: es) wr) (hn : x ≠ "__name__" := by decide) (hdb : (x == ("__debug__" : Str)) = false := by decide)
    (he : starEach (e :: es) X.env = (false, eval e X.env) :: starEach es X.env := by rfl) (hpl : (backTo pos (starEach es X.env)).any (·.1) = false := by rfl) : DE X (.Call (.Name x p1) (e :: es) [] pos) (wCB wf wr) :=
  let ⟨_, a1, a2⟩ := ha.ex; ⟨_, pe_callTy hc hg hm hv a1 hn hdb he hpl, se_cb hr a2⟩
theorem d_len (hm : X.mg "len" = none) (ha : DE X e we) (hg : Gl X "len" := by rfl) (hs : starEach [e] X.env = (false, eval e X.env) :: starEach [] X.env := by rfl) : DE X (.Call (.Name "len" p1) [e] [] pos) (wCB (w1 wLen) (wCons we wNil)) := d_callB call_lenA sc_len hg hm PySem.boot_len (a_cons ha a_nil hs) (by decide) (by decide) hs
theorem d_list (hm : X.mg "list" = none) (ha : DE X e we) (hg : Gl X "list" := by rfl) (hs : starEach [e] X.env = (false, eval e X.env) :: starEach [] X.env := by rfl) : DE X (.Call (.Name "list" p1) [e] [] pos) (wCB (w1 wListOf) (wCons we wNil)) := d_callT call_list_of sc_list hg hm boot_list (a_cons ha a_nil hs) (by decide) (by decide) hs
theorem d_listM (hm : X.mg "list" = none) (ha : DE X e we) (hg : Gl X "list" := by rfl) (hs : starEach [e] X.env = (false, eval e X.env) :: starEach [] X.env := by rfl) : DE X (.Call (.Name "list" p1) [e] [] pos) (wCB (w1 wListM) (wCons we wNil)) := d_callT call_list_of sc_listM hg hm boot_list (a_cons ha a_nil hs) (by decide) (by decide) hs
theorem d_tuple (hm : X.mg "tuple" = none) (ha : DE X e we) (hg : Gl X "tuple" := by rfl) (hs : starEach [e] X.env = (false, eval e X.env) :: starEach [] X.env := by rfl) : DE X (.Call (.Name "tuple" p1) [e] [] pos) (wCB (w1 wTupOf) (wCons we wNil)) := d_callT call_tuple_of sc_tup hg hm boot_tuple (a_cons ha a_nil hs) (by decide) (by decide) hs
theorem d_intOf (hm : X.mg "int" = none) (ha : DE X e we) (hg : Gl X "int" := by rfl) (hs : starEach [e] X.env = (false, eval e X.env) :: starEach [] X.env := by rfl) : DE X (.Call (.Name "int" p1) [e] [] pos) (wCB (w1 wIntOf) (wCons we wNil)) := d_callT call_int1 sc_int hg hm boot_int (a_cons ha a_nil hs) (by decide) (by decide) hs
theorem d_abs (hm : X.mg "abs" = none) (ha : DE X e we) (hg : Gl X "abs" := by rfl) (hs : starEach [e] X.env = (false, eval e X.env) :: starEach [] X.env := by rfl) : DE X (.Call (.Name "abs" p1) [e] [] pos) (wCB (w1 wAbs) (wCons we wNil)) := d_callB call_abs sc_abs hg hm (by decide +kernel) (a_cons ha a_nil hs) (by decide) (by decide) hs
theorem d_ord (hm : X.mg "ord" = none) (ha : DE X e we) (hg : Gl X "ord" := by rfl) (hs : starEach [e] X.env = (false, eval e X.env) :: starEach [] X.env := by rfl) : DE X (.Call (.Name "ord" p1) [e] [] pos) (wCB (w1 wOrd) (wCons we wNil)) := d_callB call_ord sc_ord hg hm (by decide +kernel) (a_cons ha a_nil hs) (by decide) (by decide) hs
theorem d_sum (hc : X.calm = true) (hm : X.mg "sum" = none) (ha : DE X e we) (hg : Gl X "sum" := by rfl) (hs : starEach [e] X.env = (false, eval e X.env) :: starEach [] X.env := by rfl) : DE X (.Call (.Name "sum" p1) [e] [] pos) (wCB (w1 wSum) (wCons we wNil)) := d_callB (cr_sum hc) sc_sum hg hm (by decide +kernel) (a_cons ha a_nil hs) (by decide) (by decide) hs
theorem d_lz (hc : X.calm = true) (hml : X.mg "list" = none) (hm : X.mg "zip" = none) (ha : DA X [a, b] wr) (hgl : Gl X "list" := by rfl) (hg : Gl X "zip" := by rfl)
    (hs : starEach [a, b] X.env = (false, eval a X.env) :: starEach [b] X.env := by rfl) (hpl : (backTo p4 (starEach [b] X.env)).any (·.1) = false := by rfl)
    (na : starEach [.Call (.Name "zip" p3) [a, b] [] p4] X.env = (false, eval (.Call (.Name "zip" p3) [a, b] [] p4) X.env) :: starEach [] X.env := by rfl) :
    DE X (.Call (.Name "list" p1) [.Call (.Name "zip" p3) [a, b] [] p4] [] pos) (wCB wLz wr) := let ⟨_, a1, a2⟩ := ha.ex; ⟨_, pe_listZip hc hgl hml hg hm a1 hs hpl na, se_cb sc_lz a2⟩
theorem d_isi {x : Str} {cv : V} {u : Value} {f : Dt → Bool} (hm : X.mg "isinstance" = none) (ha : DE X e we) (hc : PE X (.Name x p2) (tC cv)) (hu : ClsV cv u) (hf : ∀ d, PySem.W.kitOne X.K (.type (tyName d)) u = some (f d)) (hg : Gl X "isinstance" := by rfl)
    (hs : starEach [e, .Name x p2] X.env = (false, eval e X.env) :: starEach [.Name x p2] X.env := by rfl) (hpl : (backTo pos (starEach [.Name x p2] X.env)).any (·.1) = false := by rfl) : DE X (.Call (.Name "isinstance" p1) [e, .Name x p2] [] pos) (wIsi f we) :=
  let ⟨_, a1, a2⟩ := ha.ex; ⟨_, pe_callB call_isi hg hm (by decide +kernel) (pa_cons a1 (pa_cons hc pa_nil) hs) (by decide) (by decide) hs hpl, se_isi a2 hu hf⟩
theorem d_isiT {cs : List V} {us : List Value} {f : Dt → Bool} {tc : TA} {k : Nat} (hm : X.mg "isinstance" = none) (ha : DE X e we) (hc : PA X es tc) (htc : ∀ σ H Q, Q cs H → tc σ H Q) (hu : Paired ClsV cs us) (hl : cs.length ≤ sizeLine) (hf : ∀ d, PySem.W.kitAny X.K (.type (tyName d)) us = some (f d)) (hg : Gl X "isinstance" := by rfl)
    (hs : starEach [e, .Tuple es k p2] X.env = (false, eval e X.env) :: starEach [.Tuple es k p2] X.env := by rfl) (hpl : (backTo pos (starEach [.Tuple es k p2] X.env)).any (·.1) = false := by rfl) : DE X (.Call (.Name "isinstance" p1) [e, .Tuple es k p2] [] pos) (wIsi f we) :=
  let ⟨_, a1, a2⟩ := ha.ex; ⟨_, pe_callB call_isiT hg hm (by decide +kernel) (pa_cons a1 (pa_cons (pe_tup hc) pa_nil) hs) (by decide) (by decide) hs hpl, se_isiT a2 hu hl htc hf⟩
/-! methods -/
theorem d_append {o : Expr} {wo : WE} (ho : DE X o wo) (he : DE X e we) (hs : starEach [e] X.env = (false, eval e X.env) :: starEach [] X.env := by rfl) (hbase : attributeBase o "append" X.env (eval o X.env) = eval o X.env := by rfl)
    (hfew : ((backTo pos (starEach (e :: []) X.env)).all (fun x => !x.1) && (backToKw pos (keywordEach [] X.env)).all (fun x => x.1.isSome) && decide ((e :: []).length + ([] : List Keyword).length + (if ([] : List Keyword).isEmpty then 0 else 1) < 30)) = true := by rfl)
    (hline : (p1.endLine == pos.line) = true := by rfl) (hpl : (backTo pos (starEach [] X.env)).any (·.1) = false := by rfl) : DE X (.Call (.Attribute o "append" p1) [e] [] pos) (wApp (wMut wo) we) :=
  let ⟨_, a1, a2⟩ := ho.ex; let ⟨_, b1, b2⟩ := he.ex; ⟨_, pe_bm PySem.F.plainAttrs_list PySem.F.slot_list_append PySem.F.type_list_append mt_append a1 (pa_cons b1 pa_nil hs) hbase hfew hline hs hpl, se_appM a2 b2⟩
theorem d_pop {o : Expr} {wo : WE} (ho : DE X o wo) (hbase : attributeBase o "pop" X.env (eval o X.env) = eval o X.env := by rfl) (hline : (p1.endLine == pos.line) = true := by rfl) : DE X (.Call (.Attribute o "pop" p1) [] [] pos) (wPop wo) :=
  let ⟨_, a1, a2⟩ := ho.ex; ⟨_, pe_bm0 PySem.F.plainAttrs_list PySem.F.slot_list_pop PySem.F.type_list_pop mt_pop a1 hbase hline, se_pop a2⟩
theorem d_join {o : Expr} {wo : WE} (ho : DE X o wo) (he : DE X e we) (hs : starEach [e] X.env = [(false, eval e X.env)] := by rfl) (hbase : attributeBase o "join" X.env (eval o X.env) = eval o X.env := by rfl) (hline : (p1.endLine == pos.line) = true := by rfl) : DE X (.Call (.Attribute o "join" p1) [e] [] pos) (wJoin (wStr1 wo) we) :=
  let ⟨_, a1, a2⟩ := ho.ex; let ⟨_, b1, b2⟩ := he.ex; ⟨_, pe_join a1 b1 hs hbase hline, se_join a2 b2⟩
/-! statements -/
variable {st : Stmt} {rest body : List Stmt} {w u : WS}
theorem s_nil : DSs X [] wNext := ⟨_, pss_nil, ss_next⟩
theorem s_cons (h : DS X st w) (g : DSs X rest u) : DSs X (st :: rest) (wSeq w u) := let ⟨_, a1, a2⟩ := h.ex; let ⟨_, b1, b2⟩ := g.ex; ⟨_, pss_cons a1 b1, ss_seq a2 b2⟩
theorem s_one (h : DS X st w) : DSs X [st] w := let ⟨_, a1, a2⟩ := h.ex; ⟨_, pss_one a1, a2⟩
theorem s_if {l r : List Stmt} (hc : DT X c wt) (ha : DSs X l w) (hb : DSs X r u) : DS X (.If c l r pos) (wIf wt w u) := let ⟨_, c1, c2⟩ := hc.ex; let ⟨_, a1, a2⟩ := ha.ex; let ⟨_, b1, b2⟩ := hb.ex; ⟨_, ps_if c1 a1 b1, ss_if c2 a2 b2⟩
theorem s_ret (h : DE X e we) : DS X (.Return (some e) pos) (wRet we) := let ⟨_, a1, a2⟩ := h.ex; ⟨_, ps_ret a1, ss_ret a2⟩
theorem s_retN : DS X (.Return none pos) wRetN := ⟨_, ps_retN, ss_retN⟩
theorem s_expr (h : DE X e we) (hs : swapsWith e none pos.line X.env = pure false := by rfl) : DS X (.Expr e pos) (wDrop we) := let ⟨_, a1, a2⟩ := h.ex; ⟨_, ps_expr a1 hs, ss_drop a2⟩
theorem s_break : DS X (.Break pos) wBreak := ⟨_, ps_break, ss_break⟩
theorem s_cont : DS X (.Continue pos) wCont := ⟨_, ps_continue, ss_cont⟩
theorem s_asg {tg : Expr} {wg : WG} (he : DE X e we) (hg : DG X tg wg) (hs : swapsWithSole [tg] e pos.line X.env = pure false := by rfl) (hw : swappedStores [tg] e X.env = pure none := by rfl)
    (h1 : (assignEach [tg] X.env).map (·.2) = [assign tg X.env] := by rfl) : DS X (.Assign [tg] e pos) (wAsg we wg) := let ⟨_, a1, a2⟩ := he.ex; let ⟨_, b1, b2⟩ := hg.ex; ⟨_, ps_asg a1 b1 hs hw h1, ss_asg a2 b2⟩
theorem g_name (i : Nat) {x : Str} (hN : X.N.Nodup) (hi : X.N[i]? = some x := by rfl) (hx : Loc X.env.scope x := by first | exact Or.inl rfl | exact Or.inr rfl) (hf : X.fn x = true ∨ X.env.scope.names.lookup x = some .local := by first | exact .inl rfl | exact .inr rfl) : DG X (.Name x pos) (wName i) := ⟨_, pg_name hN hi hx hf, sg_name i⟩
theorem gs_nil : DGs X [] wgNil := ⟨_, pgs_nil, sgs_nil⟩
theorem gs_cons {wg : WG} {wgs : WGs} (h : DG X e wg) (g : DGs X es wgs) (hs : (assignEach (e :: es) X.env).map (·.2) = assign e X.env :: (assignEach es X.env).map (·.2) := by rfl) : DGs X (e :: es) (wgCons wg wgs) := let ⟨_, a1, a2⟩ := h.ex; let ⟨_, b1, b2⟩ := g.ex; ⟨_, pgs_cons a1 b1 hs, sgs_cons a2 b2⟩
theorem g_tup {k n : Nat} {wgs : WGs} (hc : X.calm = true) (h : DGs X es wgs) (hn : (assignEach es X.env).length = n := by rfl) (hst : (assignEach es X.env).findIdx? (·.1) = none := by rfl) : DG X (.Tuple es k pos) (wgTup n wgs) := let ⟨_, a1, a2⟩ := h.ex; ⟨_, pg_tup hc a1 hn hst, sg_tup a2⟩
theorem s_par {i j : Nat} {x y : Str} {kt k2 : Nat} (hc : X.calm = true) (hN : X.N.Nodup) (hi : X.N[i]? = some x) (hj : X.N[j]? = some y) (hij : i ≠ j)
    (hx : X.env.scope.names.lookup x = some .local) (hy : X.env.scope.names.lookup y = some .local) (ha : DA X [a, b] wr) (hw : swappedStores [.Tuple [.Name x p1, .Name y p2] kt p3] (.Tuple [a, b] k2 p4) X.env = pure (some [x, y]))
    (hs : swapsWithSole [.Tuple [.Name x p1, .Name y p2] kt p3] (.Tuple [a, b] k2 p4) pos.line X.env = pure false := by rfl) : DS X (.Assign [.Tuple [.Name x p1, .Name y p2] kt p3] (.Tuple [a, b] k2 p4) pos) (wPar i j wr) := let ⟨_, a1, a2⟩ := ha.ex; ⟨_, ps_par hc hN hi hj hij hx hy a1 hw hs, ss_par a2⟩
theorem s_par3 {i j l : Nat} {x y z : Str} {d : Expr} {kt k2 : Nat} {p5 : Pos} (hc : X.calm = true) (hN : X.N.Nodup) (hi : X.N[i]? = some x) (hj : X.N[j]? = some y) (hl : X.N[l]? = some z) (hij : i ≠ j) (hil : i ≠ l) (hjl : j ≠ l)
    (hx : X.env.scope.names.lookup x = some .local) (hy : X.env.scope.names.lookup y = some .local) (hz : X.env.scope.names.lookup z = some .local) (ha : DA X [a, b, d] wr)
    (hw : swappedStores [.Tuple [.Name x p1, .Name y p2, .Name z p5] kt p3] (.Tuple [a, b, d] k2 p4) X.env = pure (some [x, y, z])) (hs : swapsWithSole [.Tuple [.Name x p1, .Name y p2, .Name z p5] kt p3] (.Tuple [a, b, d] k2 p4) pos.line X.env = pure false := by rfl) :
    DS X (.Assign [.Tuple [.Name x p1, .Name y p2, .Name z p5] kt p3] (.Tuple [a, b, d] k2 p4) pos) (wPar3 i j l wr) := let ⟨_, a1, a2⟩ := ha.ex; ⟨_, ps_par3 hc hN hi hj hl hij hil hjl hx hy hz a1 hw hs, ss_par3 a2⟩
theorem s_augI {i : Nat} {x : Str} (hN : X.N.Nodup) (he : DE X e we) (hi : X.N[i]? = some x := by rfl) (hx : Loc X.env.scope x := by first | exact Or.inl rfl | exact Or.inr rfl) (hf : X.fn x = true ∨ X.env.scope.names.lookup x = some .local := by first | exact .inl rfl | exact .inr rfl) : DS X (.AugAssign (.Name x p1) .Add e pos) (wAug i (wI2 fun i j => .int (i + j)) we) := let ⟨_, a1, a2⟩ := he.ex; ⟨_, ps_aug hN hi hx a1 ip_add hf, ss_aug a2 sr_ip⟩
theorem s_while (hp : PassesOwn (model X.prog X.w) X.A X.env X.xe) (hc : DT X c wt) (hb : DSs X body w) : DS X (.While c body [] pos) (wWhile wt w) := let ⟨_, c1, c2⟩ := hc.ex; let ⟨_, b1, b2⟩ := hb.ex; ⟨_, ps_while hp c1 b1, ss_while c2 b2⟩
variable {tg iter : Expr} {wi : WI} {wg : WG}
theorem s_for (hp : PassesOwn (model X.prog X.w) X.A X.env X.xe) (hc : X.calm = true) (hi : DI X tg iter wi) (hg : DG X tg wg) (hb : DSs X body w) (hs : ∀ x, foldedSetIterable iter X.env x = pure x := by intro _; rfl) : DS X (.For tg iter body [] pos) (wFor wi wg w) :=
  let ⟨_, a1, a2⟩ := hi.ex; let ⟨_, b1, b2⟩ := hg.ex; let ⟨_, c1, c2⟩ := hb.ex; ⟨_, ps_for hp hc a1 b1 c1 hs, ss_for a2 b2 c2⟩
theorem i_list (h : DE X e we) : DI X tg e (wiList we) := let ⟨_, a1, a2⟩ := h.ex; ⟨_, pi_list a1, si_list a2⟩
theorem i_tup (h : DE X e we) : DI X tg e (wiTup we) := let ⟨_, a1, a2⟩ := h.ex; ⟨_, pi_tup a1, si_tup a2⟩
theorem i_str (h : DE X e we) : DI X tg e (wiStr we) := let ⟨_, a1, a2⟩ := h.ex; ⟨_, pi_str a1, si_str a2⟩
theorem i_rng1 (hm : X.mg "range" = none) (ha : DA X [a] wr) (hg : Gl X "range" := by rfl) (hs : starEach [a] X.env = [(false, eval a X.env)] := by rfl) : DI X tg (.Call (.Name "range" p1) [a] [] pos) (wiRng1 wr) := let ⟨_, a1, a2⟩ := ha.ex; ⟨_, pi_range1 hg hm a1 hs, si_rng1 a2⟩
theorem i_rng2 (hm : X.mg "range" = none) (ha : DA X [a, b] wr) (hg : Gl X "range" := by rfl) (hs : starEach [a, b] X.env = [(false, eval a X.env), (false, eval b X.env)] := by rfl) (hs2 : starEach [b] X.env = [(false, eval b X.env)] := by rfl) : DI X tg (.Call (.Name "range" p1) [a, b] [] pos) (wiRng2 wr) := let ⟨_, a1, a2⟩ := ha.ex; ⟨_, pi_range2 hg hm a1 hs hs2, si_rng2 a2⟩
theorem i_rng3 (hm : X.mg "range" = none) (ha : DA X [a, b, c] wr) (hg : Gl X "range" := by rfl) (hs : starEach [a, b, c] X.env = (false, eval a X.env) :: starEach [b, c] X.env := by rfl) (hpl : (backTo pos (starEach [b, c] X.env)).any (·.1) = false := by rfl) : DI X tg (.Call (.Name "range" p1) [a, b, c] [] pos) (wiRng3 wr) := let ⟨_, a1, a2⟩ := ha.ex; ⟨_, pi_range3 hg hm a1 hs hpl, si_rng3 a2⟩
theorem i_enT {elts : List Expr} {kk : Nat} {tpos : Pos} (hm : X.mg "enumerate" = none) (ha : DA X [e] wr) (hg : Gl X "enumerate" := by rfl) (hs : starEach [e] X.env = [(false, eval e X.env)] := by rfl) : DI X (.Tuple elts kk tpos) (.Call (.Name "enumerate" p1) [e] [] pos) (wiEnT wr) := let ⟨_, a1, a2⟩ := ha.ex; ⟨_, pi_enumT hg hm a1 hs, si_enT a2⟩
theorem d_index {o : Expr} {wo : WE} (ho : DE X o wo) (he : DE X e we) (hs : starEach [e] X.env = (false, eval e X.env) :: starEach [] X.env := by rfl) (hbase : attributeBase o "index" X.env (eval o X.env) = eval o X.env := by rfl)
    (hfew : ((backTo pos (starEach (e :: []) X.env)).all (fun x => !x.1) && (backToKw pos (keywordEach [] X.env)).all (fun x => x.1.isSome) && decide ((e :: []).length + ([] : List Keyword).length + (if ([] : List Keyword).isEmpty then 0 else 1) < 30)) = true := by rfl)
    (hline : (p1.endLine == pos.line) = true := by rfl) (hpl : (backTo pos (starEach [] X.env)).any (·.1) = false := by rfl) : DE X (.Call (.Attribute o "index" p1) [e] [] pos) (wIndex (wLst1 wo) we) :=
  let ⟨_, a1, a2⟩ := ho.ex; let ⟨_, b1, b2⟩ := he.ex; ⟨_, pe_bm PySem.F.plainAttrs_list PySem.F.slot_list_index PySem.F.type_list_index mt_index a1 (pa_cons b1 pa_nil hs) hbase hfew hline hs hpl, se_index a2 b2⟩
theorem g_sub {o i : Expr} {wo wi : WE} (ho : DE X o wo) (hi : DE X i wi)
    (ha : ∀ v, assign (.Subscript o i pos) X.env v = (do
      let ov ← holding [v] (eval o X.env)
      let iv ← holding [v, ov] (eval i X.env)
      standAt pos
      holding [v, ov, iv] (setItem ov iv v)
      release [v, ov, iv] []) := by intro _; rfl) : DG X (.Subscript o i pos) (wgSub wo wi) := let ⟨_, a1, a2⟩ := ho.ex; let ⟨_, b1, b2⟩ := hi.ex; ⟨_, pg_sub a1 b1 set_list ha, sg_sub a2 b2⟩
/-! comprehensions -/
structure DTs (X : Cx) (ifs : List Expr) (w : WT) : Prop where
  ex : ∃ t, PTs X ifs t ∧ ST X.K t w
theorem ts_nil : DTs X [] wYes := ⟨_, pts_nil, st_yes⟩
theorem ts_one (h : DT X e wt) : DTs X [e] wt := let ⟨_, a1, a2⟩ := h.ex; ⟨_, pts_one a1, a2⟩
/-- the reading that a w gives by itself -/
def tW (K : PySem.W.Frag) (w : WE) : TE := fun σ H Q => ∃ D γ M R, RE K D σ γ ∧ Ok K D M H ∧ w γ M R ∧ Bh K D R Q
def ttW (K : PySem.W.Frag) (w : WT) : TT := fun σ H Q => ∃ D γ M R, RE K D σ γ ∧ Ok K D M H ∧ w γ M R ∧ ∀ b D' M' H', Same D D' → Ok K D' M' H' → R b M' → Q b H'
theorem se_W {K : PySem.W.Frag} (w : WE) : SE K (tW K w) w := fun D σ γ M H R Q e ok h k => ⟨D, γ, M, R, e, ok, h, k⟩
theorem st_W {K : PySem.W.Frag} (w : WT) : ST K (ttW K w) w := fun D σ γ M H R Q e ok h k => ⟨D, γ, M, R, e, ok, h, k⟩
theorem DE.here (h : DE X e we) : PE X e (tW X.K we) := let ⟨_, a1, a2⟩ := h.ex; ⟨fun pins s σ H Q I ⟨D, γ, M, R, e, ok, h, k⟩ => a1.run pins s σ H Q I (a2 D σ γ M H R Q e ok h k)⟩
theorem DTs.here {ifs : List Expr} (h : DTs X ifs wt) : PTs X ifs (ttW X.K wt) := let ⟨_, a1, a2⟩ := h.ex; ⟨fun pins s σ H Q I ⟨D, γ, M, R, e, ok, h, k⟩ => a1.run pins s σ H Q I (a2 D σ γ M H R Q e ok h k)⟩
variable {elt tg iter : Expr} {ifs : List Expr} {scope : Scope} {own : List (Str × Nat)} {vs : List Nat} {wi : WI}
/-- [elt for x in iter if ..] -/
theorem d_lcN {i : Nat} (hc : X.calm = true) (hN : X.N.Nodup) (hi : DI X tg iter wi) (ok : BlkOk X.N X.env.scope scope own)
    (hg : ∀ (s : Shared) (H : Hp) (C : Addr) (cl : List (Str × Addr)) (fp : List Addr), PG (X.blk s H scope (compEnvC scope cl C X.env) fp) tg (gName i)) (hk : i ∈ vs)
    (ht : ∀ (s : Shared) (H : Hp) (C : Addr) (cl : List (Str × Addr)) (fp : List Addr), DTs (X.blk s H scope (compEnvC scope cl C X.env) fp) ifs wt)
    (he : ∀ (s : Shared) (H : Hp) (C : Addr) (cl : List (Str × Addr)) (fp : List Addr), DE (X.blk s H scope (compEnvC scope cl C X.env) fp) elt we) (hs : ∀ x, foldedSetIterable iter X.env x = pure x := by intro _; rfl) (hvs : own.map (·.2) = vs := by rfl) :
    DE X (.ListComp elt [⟨tg, iter, ifs, 0⟩] scope pos) (wLcD wi (wName i) wt we vs) := by
  subst hvs
  exact let ⟨_, i1, i2⟩ := hi.ex; ⟨_, pe_lc hc hN i1 ok hg (fun s H C cl fp => (ht s H C cl fp).here) (fun s H C cl fp => (he s H C cl fp).here) hs, se_lcD i2 (sg_name i) (keeps_name hk) (st_W _) (se_W _)⟩
theorem d_lcNM {i : Nat} (hc : X.calm = true) (hN : X.N.Nodup) (hi : DI X tg iter wi) (ok : BlkOk X.N X.env.scope scope own)
    (hg : ∀ (s : Shared) (H : Hp) (C : Addr) (cl : List (Str × Addr)) (fp : List Addr), PG (X.blk s H scope (compEnvC scope cl C X.env) fp) tg (gName i)) (hk : i ∈ vs)
    (ht : ∀ (s : Shared) (H : Hp) (C : Addr) (cl : List (Str × Addr)) (fp : List Addr), DTs (X.blk s H scope (compEnvC scope cl C X.env) fp) ifs wt)
    (he : ∀ (s : Shared) (H : Hp) (C : Addr) (cl : List (Str × Addr)) (fp : List Addr), DE (X.blk s H scope (compEnvC scope cl C X.env) fp) elt we) (hs : ∀ x, foldedSetIterable iter X.env x = pure x := by intro _; rfl) (hvs : own.map (·.2) = vs := by rfl) :
    DE X (.ListComp elt [⟨tg, iter, ifs, 0⟩] scope pos) (wLcM wi (wName i) wt we vs) := by
  subst hvs
  exact let ⟨_, i1, i2⟩ := hi.ex; ⟨_, pe_lc hc hN i1 ok hg (fun s H C cl fp => (ht s H C cl fp).here) (fun s H C cl fp => (he s H C cl fp).here) hs, se_lcM i2 (sg_name i) (keeps_name hk) (st_W _) (se_W _)⟩
theorem d_lcT {i j : Nat} (hc : X.calm = true) (hN : X.N.Nodup) (hi : DI X tg iter wi) (ok : BlkOk X.N X.env.scope scope own)
    (hg : ∀ (s : Shared) (H : Hp) (C : Addr) (cl : List (Str × Addr)) (fp : List Addr), PG (X.blk s H scope (compEnvC scope cl C X.env) fp) tg (gTup X.K 2 (gCons (gName i) (gCons (gName j) gNil)))) (hk : i ∈ vs) (hk2 : j ∈ vs)
    (ht : ∀ (s : Shared) (H : Hp) (C : Addr) (cl : List (Str × Addr)) (fp : List Addr), DTs (X.blk s H scope (compEnvC scope cl C X.env) fp) ifs wt)
    (he : ∀ (s : Shared) (H : Hp) (C : Addr) (cl : List (Str × Addr)) (fp : List Addr), DE (X.blk s H scope (compEnvC scope cl C X.env) fp) elt we) (hs : ∀ x, foldedSetIterable iter X.env x = pure x := by intro _; rfl) (hvs : own.map (·.2) = vs := by rfl) :
    DE X (.ListComp elt [⟨tg, iter, ifs, 0⟩] scope pos) (wLcD wi (wgTup 2 (wgCons (wName i) (wgCons (wName j) wgNil))) wt we vs) := by
  subst hvs
  exact let ⟨_, i1, i2⟩ := hi.ex; ⟨_, pe_lc hc hN i1 ok hg (fun s H C cl fp => (ht s H C cl fp).here) (fun s H C cl fp => (he s H C cl fp).here) hs, se_lcD i2 (sg_tup (sgs_cons (sg_name i) (sgs_cons (sg_name j) sgs_nil))) (keeps_tup (keepss_cons hk (keepss_cons hk2 keepss_nil))) (st_W _) (se_W _)⟩
/-- name = [..]: stored within the comprehension's frame -/
theorem s_setLc {i k : Nat} {y : Str} {py spos : Pos} (hc : X.calm = true) (hN : X.N.Nodup) (hy : X.N[k]? = some y) (hyl : X.env.scope.names.lookup y = some .local)
    (hsw : swapsWith (.ListComp elt [⟨tg, iter, ifs, 0⟩] scope pos) (some (.Name y py)) spos.line X.env = pure true) (hi : DI X tg iter wi) (ok : BlkOk X.N X.env.scope scope own)
    (hg : ∀ (s : Shared) (H : Hp) (C : Addr) (cl : List (Str × Addr)) (fp : List Addr), PG (X.blk s H scope (compEnvC scope cl C X.env) fp) tg (gName i)) (hk : i ∈ vs)
    (ht : ∀ (s : Shared) (H : Hp) (C : Addr) (cl : List (Str × Addr)) (fp : List Addr), DTs (X.blk s H scope (compEnvC scope cl C X.env) fp) ifs wt)
    (he : ∀ (s : Shared) (H : Hp) (C : Addr) (cl : List (Str × Addr)) (fp : List Addr), DE (X.blk s H scope (compEnvC scope cl C X.env) fp) elt we) (hs : ∀ x, foldedSetIterable iter X.env x = pure x := by intro _; rfl) (hvs : own.map (·.2) = vs := by rfl) :
    DS X (.Assign [.Name y py] (.ListComp elt [⟨tg, iter, ifs, 0⟩] scope pos) spos) (wAsg (wLcD wi (wName i) wt we vs) (wName k)) := by
  subst hvs
  exact let ⟨_, i1, i2⟩ := hi.ex; ⟨_, ps_setLc hc hN hy hyl hsw i1 ok hg (fun s H C cl fp => (ht s H C cl fp).here) (fun s H C cl fp => (he s H C cl fp).here) hs, ss_asg (se_lcD i2 (sg_name i) (keeps_name hk) (st_W _) (se_W _)) (sg_name k)⟩
theorem s_setLcM {i k : Nat} {y : Str} {py spos : Pos} (hc : X.calm = true) (hN : X.N.Nodup) (hy : X.N[k]? = some y) (hyl : X.env.scope.names.lookup y = some .local)
    (hsw : swapsWith (.ListComp elt [⟨tg, iter, ifs, 0⟩] scope pos) (some (.Name y py)) spos.line X.env = pure true) (hi : DI X tg iter wi) (ok : BlkOk X.N X.env.scope scope own)
    (hg : ∀ (s : Shared) (H : Hp) (C : Addr) (cl : List (Str × Addr)) (fp : List Addr), PG (X.blk s H scope (compEnvC scope cl C X.env) fp) tg (gName i)) (hk : i ∈ vs)
    (ht : ∀ (s : Shared) (H : Hp) (C : Addr) (cl : List (Str × Addr)) (fp : List Addr), DTs (X.blk s H scope (compEnvC scope cl C X.env) fp) ifs wt)
    (he : ∀ (s : Shared) (H : Hp) (C : Addr) (cl : List (Str × Addr)) (fp : List Addr), DE (X.blk s H scope (compEnvC scope cl C X.env) fp) elt we) (hs : ∀ x, foldedSetIterable iter X.env x = pure x := by intro _; rfl) (hvs : own.map (·.2) = vs := by rfl) :
    DS X (.Assign [.Name y py] (.ListComp elt [⟨tg, iter, ifs, 0⟩] scope pos) spos) (wAsg (wLcM wi (wName i) wt we vs) (wName k)) := by
  subst hvs
  exact let ⟨_, i1, i2⟩ := hi.ex; ⟨_, ps_setLc hc hN hy hyl hsw i1 ok hg (fun s H C cl fp => (ht s H C cl fp).here) (fun s H C cl fp => (he s H C cl fp).here) hs, ss_asg (se_lcM i2 (sg_name i) (keeps_name hk) (st_W _) (se_W _)) (sg_name k)⟩
end

/-! ### defs -/
/-- a def of the text that keeps a promise told of data, under its name -/
structure Fd (P : Program) (w : World) (K : PySem.W.Frag) (mg : Str → Option Value) (base : Heap) (x : Str) (k : Nat) (ps : List Str) (wf : WF) : Prop where
  ex : ∃ f fd, FnOk P w K mg base CX0 k f fd ps (spW K wf) ∧ mg x = some (.ref f) ∧ PySem.W.keepIn K (.ref f) = true ∧ Binds K fd ps [] ∧ ∀ (s : Shared) (vs : List Value), vs.length = ps.length → BindsTo s fd ⟨[], ps.zip vs⟩ (ps.zip vs)
section
variable {X : Cx} {e : Expr} {es : List Expr} {wr : WA} {wf : WF} {x : Str} {k : Nat} {ps : List Str} {pos p1 : Pos}
theorem d_call (F : Fd X.prog X.w X.K X.mg X.base x k ps wf) {j : Nat} (hr : Room j X.A) (ha : DA X (e :: es) wr) (hkj : k ≤ j := by decide) (hg : Gl X x := by rfl) (hdb : (x == ("__debug__" : Str)) = false := by decide)
    (he : starEach (e :: es) X.env = (false, eval e X.env) :: starEach es X.env := by rfl) (hpl : (backTo pos (starEach es X.env)).any (·.1) = false := by rfl) : DE X (.Call (.Name x p1) (e :: es) [] pos) (wCB wf wr) :=
  let ⟨f, fd, F1, hm, hk, hb, _⟩ := F.ex; let ⟨_, a1, a2⟩ := ha.ex
  ⟨_, pe_call (E := E0) F1 (hr.mono hkj) hg hm hk hb .nil pass0 a1 hdb he hpl, se_call a2⟩
theorem d_call0 (F : Fd X.prog X.w X.K X.mg X.base x k ps wf) {j : Nat} (hr : Room j X.A) (hkj : k ≤ j := by decide) (hg : Gl X x := by rfl) (hdb : (x == ("__debug__" : Str)) = false := by decide) : DE X (.Call (.Name x p1) [] [] pos) (wCB wf wNil) :=
  let ⟨f, fd, F1, hm, hk, hb, _⟩ := F.ex
  ⟨_, pe_call0 (E := E0) F1 (hr.mono hkj) hg hm hk hb .nil pass0 hdb, se_call sa_nil⟩
/-! by keywords alone, in the order of the parameters -/
structure DK (X : Cx) (kws : List Keyword) (w : WA) : Prop where
  ex : ∃ t, PK X kws t ∧ SA X.K t w
variable {kws : List Keyword} {we : WE} {nm : Option Str} {kpos : Pos}
theorem k_nil : DK X [] wNil := ⟨_, pk_nil, sa_nil⟩
theorem k_cons (ha : DE X e we) (hr : DK X kws wr) : DK X (⟨nm, e, kpos⟩ :: kws) (wCons we wr) := let ⟨_, a1, a2⟩ := ha.ex; let ⟨_, b1, b2⟩ := hr.ex; ⟨_, pk_cons a1 b1, sa_cons a2 b2⟩
theorem pe_callK0 {CX : CXT} {f : Addr} {fd : FuncData} {sp : Sp} {E : XK} {tk : TA} (F : FnOk X.prog X.w X.K X.mg X.base CX k f fd ps sp) (hr : Room k X.A) (hg : Gl X x) (hm : X.mg x = some (.ref f)) (hk : PySem.W.keepIn X.K (.ref f) = true)
    (hb : ∀ (s : Shared) (vs : List Value), vs.length = ps.length → BindsTo s fd ⟨[], ps.zip vs⟩ (ps.zip vs)) (hx : Passes CX X E) (hkw : PK X kws tk) (hall : (backToKw pos (keywordEach kws X.env)).all (·.1.isSome) = true := by rfl) (hks : (backToKw pos (keywordEach kws X.env)).filterMap (·.1) = ps := by rfl)
    (hdb : (x == ("__debug__" : Str)) = false := by decide) (hpl : ((backTo pos (starEach [] X.env)).any (·.1) || (backToKw pos (keywordEach kws X.env)).any (·.1.isNone)) = false := by rfl) :
    PE X (.Call (.Name x p1) [] kws pos) (tCall sp [] E tk) := by
  refine ⟨fun pins s σ H Q I h => ?_⟩
  refine wpAny_Call_Name_kw (ld_glob I hg hm ?_ hdb)
  refine PySem.W.callWith_KW0 (h₀ := X.base) I.ok.mod.kin hk hall (thn (hkw.run pos pins s σ H _ I h) fun ws s2 ⟨zs, H2, I2, rz, q2⟩ => ⟨I2.kIn, ?_⟩) hpl
  rw [hks]
  have q2 : sp (zs ++ []) H2 Q E := q2
  rw [List.append_nil] at q2
  have hl := F.len _ _ _ _ q2
  have hlw : ws.length = ps.length := by rw [← Vals.length rz]; exact hl
  refine wpAny_call (codeAny_mono (F.run X.A X.stack s2 H2 ⟨[], ps.zip ws⟩ ws zs _ E hr I2.env0 (hb s2 ws hlw) rz q2) fun r s' hq' => ?_)
  cases r with
  | error e => exact hx pins σ H2 s2 e s' I2 hq'
  | ok fl =>
    cases fl with
    | ret u => exact I2.after hq'
    | next => exact False.elim hq'
    | brk => exact False.elim hq'
    | cont => exact False.elim hq'
theorem d_callK (F : Fd X.prog X.w X.K X.mg X.base x k ps wf) {j : Nat} (hr : Room j X.A) (ha : DK X kws wr) (hkj : k ≤ j := by decide) (hg : Gl X x := by rfl) (hall : (backToKw pos (keywordEach kws X.env)).all (·.1.isSome) = true := by rfl) (hks : (backToKw pos (keywordEach kws X.env)).filterMap (·.1) = ps := by rfl)
    (hdb : (x == ("__debug__" : Str)) = false := by decide) (hpl : ((backTo pos (starEach [] X.env)).any (·.1) || (backToKw pos (keywordEach kws X.env)).any (·.1.isNone)) = false := by rfl) : DE X (.Call (.Name x p1) [] kws pos) (wCB wf wr) :=
  let ⟨f, fd, F1, hm, hk, _, hb⟩ := F.ex; let ⟨_, a1, a2⟩ := ha.ex
  ⟨_, pe_callK0 (E := E0) F1 (hr.mono hkj) hg hm hk hb pass0 a1 hall hks hdb hpl, se_call a2⟩
end
section
variable {P : Program} {w : World} {K : PySem.W.Frag} {mg : Str → Option Value} {base : Heap}
/-- THE RULE for a def: its body's derivation, and that what is promised is what the body comes to -/
theorem fd_ok {x qual : Str} {st : Stmt} {f : Addr} {fd : FuncData} {N ps : List Str} {k : Nat} {wf : WF} {wb : WS} (F : Fun K x qual st f fd) (S : FnScope N ps (defScope st)) (len : ∀ ss M R, wf ss M R → ss.length = ps.length)
    (body : ∀ (cdv : Value) (A : Around) (outer : List Env) (s : Shared) (H : Hp) (E : XK), Room k (A.deeper (envOfC qual (defScope st) s.heap.objs.size f cdv)) → DSs (cxOf CX0 P w K mg base N qual (defScope st) f cdv A outer s H E).nox (defBody st) wb)
    (h : ∀ ss M R, wf ss M R → wb { nx := fun _ M => R (.d .non) M, rt := R } (startE N ss) M) : FnOk P w K mg base CX0 (k + 1) f fd ps (spW K wf) := by
  refine F.ok S (fun vs H Q E hs => ?_) (fun cdv A outer s H vs Q E hr hs => ?_)
  · obtain ⟨D, M, ss, R, ok, r, q, _⟩ := hs
    rw [Paired.length r]
    exact len ss M R q
  · obtain ⟨D, M, ss, R, ok, r, q, bh⟩ := hs
    obtain ⟨t, b1, b2⟩ := (body cdv A outer s H E hr).ex
    refine ⟨t, b1, b2 D (L2.start N vs) (startE N ss) M H _ _ (RE.start r) ok (h ss M R q) ⟨fun σ γ D' M' H' s' ok' e' q' => bh .non (.d .non) D' M' H' s' ok' .non q', bh, fun σ γ D' M' H' s' ok' e' q' => q'.elim, fun σ γ D' M' H' s' ok' e' q' => q'.elim⟩⟩
end
end Lw
set_option linter.all false
set_option maxHeartbeats 4000000
/-! mathematics: figures to the base 128, numbers and texts read from octets; no program in sight -/
namespace Lw
open PySem L2

def digs (n : Nat) : List Int := if h : n < 128 then [(n : Int)] else (128 + (n : Int) % 128) :: digs (n / 128)
termination_by n
decreasing_by omega
theorem digs_lt {n : Nat} (h : n < 128) : digs n = [(n : Int)] := by rw [digs, dif_pos h]
theorem digs_ge {n : Nat} (h : ¬ n < 128) : digs n = (128 + (n : Int) % 128) :: digs (n / 128) := by rw [digs, dif_neg h]
theorem digs_length : ∀ (k n : Nat), n < 128 ^ (k + 1) → (digs n).length ≤ k + 1
  | 0, n, h => by rw [digs_lt (by simpa using h)]; simp
  | k + 1, n, h => by
    by_cases hn : n < 128
    · rw [digs_lt hn]; simp
    · rw [digs_ge hn, List.length_cons]
      have : n / 128 < 128 ^ (k + 1) := Nat.div_lt_of_lt_mul (by rw [Nat.pow_succ] at h; omega)
      have := digs_length k (n / 128) this
      omega
theorem digs_ne (n : Nat) : digs n ≠ [] := by
  by_cases hn : n < 128
  · rw [digs_lt hn]; simp
  · rw [digs_ge hn]; simp
theorem digs_oct : ∀ (k n : Nat), n ≤ k → ∀ x ∈ digs n, 0 ≤ x ∧ x < 256
  | k, n, h, x, hx => by
    by_cases hn : n < 128
    · rw [digs_lt hn] at hx; simp at hx; omega
    · rw [digs_ge hn] at hx
      rcases List.mem_cons.mp hx with e | hx
      · omega
      · cases k with
        | zero => omega
        | succ k => exact digs_oct k (n / 128) (by omega) x hx

/-! ### reading -/
/-- the number that stands ahead, and how many octets it has; b: nothing was read yet -/
def readN (b : Bool) : List Int → Option (Int × Nat)
  | [] => none
  | x :: r => if x < 128 then (if b = false ∧ x = 0 then none else some (x, 1)) else match readN false r with | none => none | some (v, l) => some (x - 128 + 128 * v, l + 1)
theorem readN_digs : ∀ (k n : Nat) (b : Bool) (rest : List Int), n ≤ k → (b = true ∨ 0 < n) → readN b (digs n ++ rest) = some ((n : Int), (digs n).length)
  | k, n, b, rest, hk, hb => by
    by_cases hn : n < 128
    · rw [digs_lt hn]
      show (if (n : Int) < 128 then (if b = false ∧ (n : Int) = 0 then none else some ((n : Int), 1)) else _) = _
      rw [if_pos (by omega), if_neg]
      · rfl
      · rintro ⟨h1, h2⟩
        rcases hb with h | h
        · rw [h] at h1; cases h1
        · omega
    · rw [digs_ge hn, List.cons_append, readN, if_neg (by omega)]
      cases k with
      | zero => omega
      | succ k =>
        rw [readN_digs k (n / 128) false rest (by omega) (.inr (by omega))]
        show some (128 + (n : Int) % 128 - 128 + 128 * ((n / 128 : Nat) : Int), (digs (n / 128)).length + 1) = _
        rw [List.length_cons]
        have : 128 + (n : Int) % 128 - 128 + 128 * ((n / 128 : Nat) : Int) = (n : Int) := by omega
        rw [this]
theorem readN_len : ∀ (b : Bool) (xs : List Int) (v : Int) (l : Nat), readN b xs = some (v, l) → 1 ≤ l ∧ l ≤ xs.length
  | b, [], v, l, h => by cases h
  | b, x :: r, v, l, h => by
    unfold readN at h
    split at h
    · split at h
      · cases h
      · cases h; simp
    · split at h
      · cases h
      · rename_i v' l' e
        cases h
        have := readN_len false r v' l' e
        simp only [List.length_cons]; omega
theorem readN_nonneg : ∀ (b : Bool) (xs : List Int) (v : Int) (l : Nat), (∀ x ∈ xs, 0 ≤ x) → readN b xs = some (v, l) → 0 ≤ v
  | b, [], v, l, _, h => by cases h
  | b, x :: r, v, l, hx, h => by
    unfold readN at h
    split at h
    · split at h
      · cases h
      · cases h; exact hx _ List.mem_cons_self
    · rename_i h128
      split at h
      · cases h
      · rename_i v' l' e
        cases h
        have := readN_nonneg false r v' l' (fun y hy => hx y (List.mem_cons_of_mem _ hy)) e
        omega
def numAt (ns : List Int) (at_ : Int) : Option (Int × Int) := if at_ < 0 then none else match readN true (ns.drop at_.toNat) with | none => none | some (v, l) => some (v, at_ + l)
def optN : Option (Int × Int) → Dt | none => .non | some (v, e) => .tup [.int v, .int e]
/-- how many octets from 128 on stand ahead -/
def runL : List Int → Nat | [] => 0 | x :: r => if x < 128 then 0 else runL r + 1
theorem runL_le : ∀ xs : List Int, runL xs ≤ xs.length
  | [] => Nat.le_refl _
  | x :: r => by unfold runL; split <;> simp [runL_le r]
theorem runL_lt : ∀ (xs : List Int) (i : Nat) (x : Int), i < runL xs → xs[i]? = some x → 128 ≤ x
  | [], i, x, h, _ => by simp [runL] at h
  | y :: r, 0, x, h, e => by
    unfold runL at h
    simp at e
    split at h
    · omega
    · omega
  | y :: r, i + 1, x, h, e => by
    unfold runL at h
    split at h
    · omega
    · exact runL_lt r i x (by omega) (by simpa using e)
theorem runL_at : ∀ (xs : List Int), runL xs < xs.length → ∃ x, xs[runL xs]? = some x ∧ x < 128
  | [], h => by simp at h
  | y :: r, h => by
    by_cases hy : y < 128
    · have e : runL (y :: r) = 0 := by unfold runL; rw [if_pos hy]
      rw [e]
      exact ⟨y, rfl, hy⟩
    · have e : runL (y :: r) = runL r + 1 := by rw [runL, if_neg hy]
      rw [e] at h ⊢
      obtain ⟨x, h1, h2⟩ := runL_at r (by simpa using h)
      exact ⟨x, by simpa using h1, h2⟩
/-- figures to a base, the least first -/
def numB (b : Int) : List Int → Int | [] => 0 | x :: r => x + b * numB b r
theorem readN_eq : ∀ (b : Bool) (xs : List Int), readN b xs = if runL xs < xs.length then (if (b = false ∨ 0 < runL xs) ∧ xs[runL xs]? = some 0 then none else some (numB 128 ((xs.take (runL xs)).map (· - 128) ++ (xs.drop (runL xs)).take 1), runL xs + 1)) else none
  | b, [] => rfl
  | b, x :: r => by
    by_cases hx : x < 128
    · have e : runL (x :: r) = 0 := by rw [runL, if_pos hx]
      have e1 : readN b (x :: r) = if b = false ∧ x = 0 then none else some (x, 1) := by rw [readN, if_pos hx]
      rw [e, e1, if_pos (show 0 < (x :: r).length by simp)]
      by_cases hz : b = false ∧ x = 0
      · rw [if_pos hz, if_pos ⟨.inl hz.1, by rw [hz.2]; rfl⟩]
      · rw [if_neg hz, if_neg]
        · simp [numB]
        · rintro ⟨h1, h2⟩
          rw [List.getElem?_cons_zero] at h2
          rcases h1 with h1 | h1
          · exact hz ⟨h1, Option.some.inj h2⟩
          · omega
    · have e : runL (x :: r) = runL r + 1 := by rw [runL, if_neg hx]
      have e1 : readN b (x :: r) = match readN false r with | none => none | some (v, l) => some (x - 128 + 128 * v, l + 1) := by rw [readN, if_neg hx]
      rw [e, e1, readN_eq false r]
      by_cases hl : runL r < r.length
      · have hl2 : runL r + 1 < (x :: r).length := by rw [List.length_cons]; omega
        rw [if_pos hl2]
        by_cases hz : r[runL r]? = some 0
        · rw [if_pos hl, if_pos ⟨.inl rfl, hz⟩, if_pos ⟨.inr (Nat.succ_pos _), by rw [List.getElem?_cons_succ]; exact hz⟩]
        · rw [if_pos hl, if_neg (fun h => hz h.2), if_neg (fun h => hz (by have := h.2; rw [List.getElem?_cons_succ] at this; exact this))]
          rfl
      · rw [if_neg hl, if_neg (show ¬ runL r + 1 < (x :: r).length by rw [List.length_cons]; omega)]
/-! ### neighbours put together -/
def pr (b : Int) : List Int → List Int | x :: y :: r => (x + b * y) :: pr b r | _ => []
def lastOdd : List Int → List Int | _ :: _ :: r => lastOdd r | [x] => [x] | [] => []
theorem pr_length (b : Int) : ∀ xs : List Int, (pr b xs).length = xs.length / 2
  | [] => rfl
  | [_] => by simp [pr]
  | x :: y :: r => by unfold pr; rw [List.length_cons, pr_length b r, List.length_cons, List.length_cons]; omega
theorem pr_get (b : Int) : ∀ (xs : List Int) (i : Nat) (x y : Int), xs[2 * i]? = some x → xs[2 * i + 1]? = some y → (pr b xs)[i]? = some (x + b * y)
  | [], i, x, y, h, _ => by simp at h
  | [_], i, x, y, _, h => by simp at h
  | u :: v :: r, 0, x, y, h, g => by simp at h g; subst h g; rfl
  | u :: v :: r, i + 1, x, y, h, g => by
    unfold pr
    rw [List.getElem?_cons_succ]
    exact pr_get b r i x y (by rw [show 2 * (i + 1) = 2 * i + 1 + 1 by omega] at h; simpa using h) (by rw [show 2 * (i + 1) + 1 = 2 * i + 1 + 1 + 1 by omega] at g; simpa using g)
theorem lastOdd_eq : ∀ xs : List Int, (xs.length % 2 = 1 → ∃ x, xs[xs.length - 1]? = some x ∧ lastOdd xs = [x]) ∧ (xs.length % 2 = 0 → lastOdd xs = [])
  | [] => ⟨fun h => by simp at h, fun _ => rfl⟩
  | [x] => ⟨fun _ => ⟨x, rfl, rfl⟩, fun h => by simp at h⟩
  | x :: y :: r => by
    obtain ⟨h1, h2⟩ := lastOdd_eq r
    refine ⟨fun h => ?_, fun h => ?_⟩
    · obtain ⟨z, e1, e2⟩ := h1 (by simp only [List.length_cons] at h; omega)
      refine ⟨z, ?_, e2⟩
      have hr : 0 < r.length := by
        cases r with
        | nil => simp at e1
        | cons => simp
      simp only [List.length_cons]
      rw [show r.length + 1 + 1 - 1 = (r.length - 1) + 1 + 1 by omega]
      simpa using e1
    · exact h2 (by simp only [List.length_cons] at h; omega)
theorem numB_pr (b : Int) : ∀ xs : List Int, numB b xs = numB (b * b) (pr b xs ++ lastOdd xs)
  | [] => rfl
  | [x] => by simp [pr, lastOdd, numB]
  | x :: y :: r => by
    show x + b * (y + b * numB b r) = (x + b * y) + b * b * numB (b * b) (pr b r ++ lastOdd r)
    rw [← numB_pr b r, Int.mul_add, ← Int.mul_assoc]
    omega
theorem pr_bound (b : Int) (hb : 0 < b) : ∀ xs : List Int, (∀ x ∈ xs, 0 ≤ x ∧ x < b) → ∀ x ∈ pr b xs ++ lastOdd xs, 0 ≤ x ∧ x < b * b
  | [], _, x, hx => by cases hx
  | [y], h, x, hx => by
    simp [pr, lastOdd] at hx
    subst hx
    have h2 := h x (by simp)
    refine ⟨h2.1, ?_⟩
    have : b * 1 ≤ b * b := Int.mul_le_mul_of_nonneg_left (by omega) (by omega)
    omega
  | u :: v :: r, h, x, hx => by
    have e : pr b (u :: v :: r) ++ lastOdd (u :: v :: r) = (u + b * v) :: (pr b r ++ lastOdd r) := rfl
    rw [e] at hx
    rcases List.mem_cons.mp hx with hx | hx
    · have hu := h u (by simp)
      have hv := h v (by simp)
      subst hx
      have h1 : 0 ≤ b * v := Int.mul_nonneg (by omega) hv.1
      have h2 : b * v ≤ b * (b - 1) := Int.mul_le_mul_of_nonneg_left (by omega) (by omega)
      have h3 : b * (b - 1) = b * b - b := by rw [Int.mul_sub]; omega
      exact ⟨by omega, by omega⟩
    · exact pr_bound b hb r (fun z hz => h z (by simp [hz])) x hx
/-! ### sums, texts -/
def sumO : Nat → List Int → Int | _, [] => 0 | k, x :: r => (k + 1 : Int) * x + sumO (k + 1) r
end Lw
set_option Elab.async false
set_option linter.all false
set_option maxRecDepth 100000
set_option maxHeartbeats 4000000
namespace Lw
open PySem PySem.Spec PyProof.Rows L2
section
variable {X : Cx}
/-- tuple * int, many times: the rule that TupMul has for at most a thousand times, for as many as the product of both allows -/
def rRepM (K : PySem.W.Frag) : R2 := fun x y H Q => ∃ l k xs, x = .ref l ∧ y = .int k ∧ SqT K H l xs ∧ xs ≠ [] ∧ 2 ≤ k ∧ ((xs.length : Nat) : Int) * k ≤ 1000000 ∧ ∀ p, H p = none → Q (.ref p) (upd H p (.tup (List.replicate k.toNat xs).flatten))
theorem op_repM : OpR X (binaryOp .Mult) (rRepM X.K) := by
  rintro pins s σ H x y v u Q I rx ry ⟨l, k, xs, rfl, rfl, hT, hne, h1, hz, q⟩
  cases rx
  obtain ⟨t, rfl⟩ := ry
  obtain ⟨its, r, ⟨⟨cls, dd, data, sl⟩, ho, hc, n, hd⟩, hs⟩ := I.tuple hT
  simp only at hc hd
  subst hc hd
  have le : xs.length = its.length := r.length
  have pos : 0 < its.length := le ▸ List.length_pos_iff.mpr hne
  have hk : k ≤ 1000000 := by
    have a1 : (1 : Int) * k ≤ ((xs.length : Nat) : Int) * k := Int.mul_le_mul_of_nonneg_right (by omega) (by omega)
    omega
  have many : its.length * k.toNat ≤ 1000000 := by
    have a1 : ((its.length * k.toNat : Nat) : Int) = ((xs.length : Nat) : Int) * k := by rw [Int.natCast_mul, le, Int.toNat_of_nonneg (by omega)]
    omega
  have flen : (List.replicate k.toNat its).flatten.length ≤ sizeLine := by
    rw [PyProof.Rows.lm_len_rep_flat, sizeLine_eq, Nat.mul_comm]
    omega
  have e0 : its.toArray.isEmpty = false := by
    rw [List.isEmpty_toArray]
    cases its with
    | nil => exact absurd pos (Nat.lt_irrefl 0)
    | cons => rfl
  have big : ((its.toArray.size : Nat) : Int) * k ≤ 1000000 := by rw [List.size_toArray, ← le]; exact hz
  refine wpAny_binaryOp_repeat_ref (T := "tuple") (U := "int") (by decide) ⟨_, ho, rfl⟩ (fun s' => typeIs_int s' k t) noFill_tuple_mul F.fills_int_mul F.slot_int_rmul repeat_tuple F.slot_int_index.lookup
    (call_meets F.slot_int_rmul (typeIs_int s k t) F.entry_int_rmul (F.args_int_rmul_2 _ _) (int_rmul_tuple k t l its.toArray n dd sl)
      ⟨ho, rfl, ⟨_, ho, rfl⟩, call_meets F.slot_tuple_mul ⟨_, ho, rfl⟩ F.entry_tuple_mul (F.args_tuple_mul_2 _ _)
        (tuple_mulW l its.toArray n dd sl k t (by simp only [Bool.or_eq_false_iff, decide_eq_false_iff_not]; omega) (by rw [e0]; simp only [Bool.false_or, beq_eq_false_iff_ne]; omega) (by rw [e0]; simp only [Bool.or_false, decide_eq_false_iff_not]; omega) (by omega)
          (by unfold Builtin.Tuple.tupleTooMany; rw [sizeLine_eq]; exact decide_eq_false (by omega)) (by rw [size_rep, List.size_toArray]; exact flen)) ⟨ho, ?_⟩⟩)
  rw [size_rep]
  exact ⟨.ref s.heap.objs.size, _, I.laid (t' := s.toks) (o := .tup (List.replicate k.toNat xs).flatten) (fun b ob q => Heap.get?_push_of_some _ q) (Nat.le_refl _) ⟨by rw [PyProof.Rows.lm_len_rep_flat, sizeLine_eq, le, Nat.mul_comm]; omega, _, r.rep k.toNat, IsTup.new _ _⟩, rfl, q _ (I.hok.fresh (Nat.le_refl _))⟩
end
/-! more rules: minus, what is never reached, constants of the module, isinstance -/
def wNeg (wa : WE) : WE := fun γ M R => wa γ M fun x M1 => onInt x fun i => R (.d (.int (-i))) M1
def wNever : WE := fun _ _ _ => False
def wMulM : S → S → Sto → KS → Prop := fun x y M R => match x, y with
  | .d (.tup i), .d (.int j) => i ≠ [] ∧ 2 ≤ j ∧ ((i.length : Nat) : Int) * j ≤ 1000000 ∧ R (.d (.tup (List.replicate j.toNat i).flatten)) M
  | _, _ => False
def is_str : Dt → Bool | .str _ => true | _ => false
def is_int : Dt → Bool | .int _ => true | .bl _ => true | _ => false
def is_bool : Dt → Bool | .bl _ => true | _ => false
def is_tuple : Dt → Bool | .tup _ => true | _ => false
def is_list : Dt → Bool | .lst _ => true | _ => false
def is_own : Dt → Bool | _ => false
def is_tuple_list_dict : Dt → Bool | .tup _ => true | .lst _ => true | _ => false
def is_int_str : Dt → Bool | .int _ => true | .bl _ => true | .str _ => true | _ => false
section
variable {K : PySem.W.Frag}
theorem ty_str {K : PySem.W.Frag} : ∀ d, PySem.W.kitOne K (.type (tyName d)) (.type "str") = some (is_str d)
  | .non => kit_ty (show kitB "NoneType" "str" = some false by decide +kernel)
  | .bl _ => kit_ty (show kitB "bool" "str" = some false by decide +kernel)
  | .int _ => kit_ty (show kitB "int" "str" = some false by decide +kernel)
  | .str _ => kit_ty (show kitB "str" "str" = some true by decide +kernel)
  | .lst _ => kit_ty (show kitB "list" "str" = some false by decide +kernel)
  | .tup _ => kit_ty (show kitB "tuple" "str" = some false by decide +kernel)
theorem ty_int {K : PySem.W.Frag} : ∀ d, PySem.W.kitOne K (.type (tyName d)) (.type "int") = some (is_int d)
  | .non => kit_ty (show kitB "NoneType" "int" = some false by decide +kernel)
  | .bl _ => kit_ty (show kitB "bool" "int" = some true by decide +kernel)
  | .int _ => kit_ty (show kitB "int" "int" = some true by decide +kernel)
  | .str _ => kit_ty (show kitB "str" "int" = some false by decide +kernel)
  | .lst _ => kit_ty (show kitB "list" "int" = some false by decide +kernel)
  | .tup _ => kit_ty (show kitB "tuple" "int" = some false by decide +kernel)
theorem ty_bool {K : PySem.W.Frag} : ∀ d, PySem.W.kitOne K (.type (tyName d)) (.type "bool") = some (is_bool d)
  | .non => kit_ty (show kitB "NoneType" "bool" = some false by decide +kernel)
  | .bl _ => kit_ty (show kitB "bool" "bool" = some true by decide +kernel)
  | .int _ => kit_ty (show kitB "int" "bool" = some false by decide +kernel)
  | .str _ => kit_ty (show kitB "str" "bool" = some false by decide +kernel)
  | .lst _ => kit_ty (show kitB "list" "bool" = some false by decide +kernel)
  | .tup _ => kit_ty (show kitB "tuple" "bool" = some false by decide +kernel)
theorem ty_tuple {K : PySem.W.Frag} : ∀ d, PySem.W.kitOne K (.type (tyName d)) (.type "tuple") = some (is_tuple d)
  | .non => kit_ty (show kitB "NoneType" "tuple" = some false by decide +kernel)
  | .bl _ => kit_ty (show kitB "bool" "tuple" = some false by decide +kernel)
  | .int _ => kit_ty (show kitB "int" "tuple" = some false by decide +kernel)
  | .str _ => kit_ty (show kitB "str" "tuple" = some false by decide +kernel)
  | .lst _ => kit_ty (show kitB "list" "tuple" = some false by decide +kernel)
  | .tup _ => kit_ty (show kitB "tuple" "tuple" = some true by decide +kernel)
theorem ty_list {K : PySem.W.Frag} : ∀ d, PySem.W.kitOne K (.type (tyName d)) (.type "list") = some (is_list d)
  | .non => kit_ty (show kitB "NoneType" "list" = some false by decide +kernel)
  | .bl _ => kit_ty (show kitB "bool" "list" = some false by decide +kernel)
  | .int _ => kit_ty (show kitB "int" "list" = some false by decide +kernel)
  | .str _ => kit_ty (show kitB "str" "list" = some false by decide +kernel)
  | .lst _ => kit_ty (show kitB "list" "list" = some true by decide +kernel)
  | .tup _ => kit_ty (show kitB "tuple" "list" = some false by decide +kernel)
theorem ty_dict {K : PySem.W.Frag} : ∀ d, PySem.W.kitOne K (.type (tyName d)) (.type "dict") = some (is_own d)
  | .non => kit_ty (show kitB "NoneType" "dict" = some false by decide +kernel)
  | .bl _ => kit_ty (show kitB "bool" "dict" = some false by decide +kernel)
  | .int _ => kit_ty (show kitB "int" "dict" = some false by decide +kernel)
  | .str _ => kit_ty (show kitB "str" "dict" = some false by decide +kernel)
  | .lst _ => kit_ty (show kitB "list" "dict" = some false by decide +kernel)
  | .tup _ => kit_ty (show kitB "tuple" "dict" = some false by decide +kernel)
theorem ty_tld {K : PySem.W.Frag} (d : Dt) : PySem.W.kitAny K (.type (tyName d)) [.type "tuple", .type "list", .type "dict"] = some (is_tuple_list_dict d) := by
  show (match PySem.W.kitOne K (.type (tyName d)) (.type "tuple") with | some true => some true | some false => (match PySem.W.kitOne K (.type (tyName d)) (.type "list") with | some true => some true | some false => (match PySem.W.kitOne K (.type (tyName d)) (.type "dict") with | some true => some true | some false => some false | none => none) | none => none) | none => none) = _
  rw [ty_tuple, ty_list, ty_dict]
  cases d <;> rfl
theorem se_neg {ta : TE} {wa : WE} (ha : SE K ta wa) : SE K (tUn (rU fun i => .int (-i)) ta) (wNeg wa) := fun D σ γ M H R Q e ok h k =>
  ha D σ γ M H _ _ e ok h fun x s D1 M1 H1 s1 ok1 rx q => by
    obtain ⟨i, rfl, q1⟩ := onInt_inv q
    cases rx
    exact ⟨i, rfl, (k.at s1).here ok1 (s := .d (.int _)) (.int _) q1⟩
theorem sr_repM : SR K (rRepM K) wMulM := fun D M H x y s u R Q ok rx ry q k => by
  unfold wMulM at q
  split at q
  · cases ry
    cases rx with
    | tup h1 h2 =>
      refine ⟨_, _, _, rfl, rfl, Same.sqt ok.s h1, fun z => ?_, q.2.1, by rw [h2.length]; exact q.2.2.1, fun p hp => k.newT ok (DqAll.rep h2 _) q.2.2.2 hp⟩
      subst z
      cases h2
      exact q.1 rfl
  · exact q.elim
theorem se_never {t : TE} : SE K t wNever := fun _ _ _ _ _ _ _ _ _ h _ => h.elim
end
section
variable {X : Cx} {e : Expr} {we : WE} {pos p1 p2 p3 : Pos}
theorem d_neg (ha : DE X e we) : DE X (.UnaryOp .USub e pos) (wNeg we) := let ⟨_, a1, a2⟩ := ha.ex; ⟨_, pe_un un_neg a1, se_neg a2⟩
theorem d_mulM {a b : Expr} {wa wb : WE} (ha : DE X a wa) (hb : DE X b wb) : DE X (.BinOp a .Mult b pos) (wOp wMulM wa wb) := d_bin op_repM sr_repM ha hb
theorem d_never : DE X e wNever := ⟨fun _ _ _ => False, ⟨fun _ _ _ _ _ _ h => h.elim⟩, se_never⟩
theorem d_gI {x : Str} {n : Int} (hg : Gl X x) (hm : ∃ t, X.mg x = some (.int n t)) (hd : (x == ("__debug__" : Str)) = false := by decide) : DE X (.Name x pos) (wC (.int n)) := let ⟨t, hm⟩ := hm; d_glob (v := .int n) hg hm ⟨t, rfl⟩ (fun _ => .int n) hd
theorem d_gS {x : Str} {n : Str} (hg : Gl X x) (hm : ∃ t, X.mg x = some (.str n t)) (hd : (x == ("__debug__" : Str)) = false := by decide) : DE X (.Name x pos) (wC (.str n)) := let ⟨t, hm⟩ := hm; d_glob (v := .str n) hg hm ⟨t, rfl⟩ (fun _ => .str n) hd
theorem isi_str (hm : X.mg "isinstance" = none) (h1 : X.mg "str" = none) (ha : DE X e we) (hg : Gl X "isinstance" := by rfl) (hg1 : Gl X "str" := by rfl)
    (hs : starEach [e, .Name "str" p2] X.env = (false, eval e X.env) :: starEach [.Name "str" p2] X.env := by rfl) (hpl : (backTo pos (starEach [.Name "str" p2] X.env)).any (·.1) = false := by rfl) : DE X (.Call (.Name "isinstance" p1) [e, .Name "str" p2] [] pos) (wIsi is_str we) :=
  d_isi hm ha (pe_bltn (v := .ty "str") hg1 h1 (by decide +kernel) rfl) (.ty "str") (fun d => ty_str d) hg hs hpl
theorem isi_int (hm : X.mg "isinstance" = none) (h1 : X.mg "int" = none) (ha : DE X e we) (hg : Gl X "isinstance" := by rfl) (hg1 : Gl X "int" := by rfl)
    (hs : starEach [e, .Name "int" p2] X.env = (false, eval e X.env) :: starEach [.Name "int" p2] X.env := by rfl) (hpl : (backTo pos (starEach [.Name "int" p2] X.env)).any (·.1) = false := by rfl) : DE X (.Call (.Name "isinstance" p1) [e, .Name "int" p2] [] pos) (wIsi is_int we) :=
  d_isi hm ha (pe_bltn (v := .ty "int") hg1 h1 (by decide +kernel) rfl) (.ty "int") (fun d => ty_int d) hg hs hpl
theorem isi_bool (hm : X.mg "isinstance" = none) (h1 : X.mg "bool" = none) (ha : DE X e we) (hg : Gl X "isinstance" := by rfl) (hg1 : Gl X "bool" := by rfl)
    (hs : starEach [e, .Name "bool" p2] X.env = (false, eval e X.env) :: starEach [.Name "bool" p2] X.env := by rfl) (hpl : (backTo pos (starEach [.Name "bool" p2] X.env)).any (·.1) = false := by rfl) : DE X (.Call (.Name "isinstance" p1) [e, .Name "bool" p2] [] pos) (wIsi is_bool we) :=
  d_isi hm ha (pe_bltn (v := .ty "bool") hg1 h1 (by decide +kernel) rfl) (.ty "bool") (fun d => ty_bool d) hg hs hpl
theorem isi_tuple (hm : X.mg "isinstance" = none) (h1 : X.mg "tuple" = none) (ha : DE X e we) (hg : Gl X "isinstance" := by rfl) (hg1 : Gl X "tuple" := by rfl)
    (hs : starEach [e, .Name "tuple" p2] X.env = (false, eval e X.env) :: starEach [.Name "tuple" p2] X.env := by rfl) (hpl : (backTo pos (starEach [.Name "tuple" p2] X.env)).any (·.1) = false := by rfl) : DE X (.Call (.Name "isinstance" p1) [e, .Name "tuple" p2] [] pos) (wIsi is_tuple we) :=
  d_isi hm ha (pe_bltn (v := .ty "tuple") hg1 h1 (by decide +kernel) rfl) (.ty "tuple") (fun d => ty_tuple d) hg hs hpl
theorem isi_list (hm : X.mg "isinstance" = none) (h1 : X.mg "list" = none) (ha : DE X e we) (hg : Gl X "isinstance" := by rfl) (hg1 : Gl X "list" := by rfl)
    (hs : starEach [e, .Name "list" p2] X.env = (false, eval e X.env) :: starEach [.Name "list" p2] X.env := by rfl) (hpl : (backTo pos (starEach [.Name "list" p2] X.env)).any (·.1) = false := by rfl) : DE X (.Call (.Name "isinstance" p1) [e, .Name "list" p2] [] pos) (wIsi is_list we) :=
  d_isi hm ha (pe_bltn (v := .ty "list") hg1 h1 (by decide +kernel) rfl) (.ty "list") (fun d => ty_list d) hg hs hpl
/-- a class of the text: no data is of it -/
structure OwnCls (K : PySem.W.Frag) (mg : Str → Option Value) (x : Str) : Prop where
  ex : ∃ C, mg x = some (.ref C) ∧ ∀ d, PySem.W.kitOne K (.type (tyName d)) (.ref C) = some false
theorem isi_own {x : Str} (hm : X.mg "isinstance" = none) (h1 : OwnCls X.K X.mg x) (ha : DE X e we) (hg : Gl X "isinstance" := by rfl) (hg1 : Gl X x := by rfl) (hd : (x == ("__debug__" : Str)) = false := by decide)
    (hs : starEach [e, .Name x p2] X.env = (false, eval e X.env) :: starEach [.Name x p2] X.env := by rfl) (hpl : (backTo pos (starEach [.Name x p2] X.env)).any (·.1) = false := by rfl) : DE X (.Call (.Name "isinstance" p1) [e, .Name x p2] [] pos) (wIsi is_own we) :=
  let ⟨C, h2, h3⟩ := h1.ex; d_isi hm ha (pe_glob (v := .ref C) hg1 h2 rfl hd) (.own C) h3 hg hs hpl
theorem isi_tuple_list_dict {k : Nat} {p4 p5 : Pos} (hm : X.mg "isinstance" = none) (h1 : X.mg "tuple" = none) (h2 : X.mg "list" = none) (h3 : X.mg "dict" = none) (ha : DE X e we) (hg : Gl X "isinstance" := by rfl) (hg1 : Gl X "tuple" := by rfl) (hg2 : Gl X "list" := by rfl) (hg3 : Gl X "dict" := by rfl)
    (hs : starEach [e, .Tuple [.Name "tuple" p3, .Name "list" p4, .Name "dict" p5] k p2] X.env = (false, eval e X.env) :: starEach [.Tuple [.Name "tuple" p3, .Name "list" p4, .Name "dict" p5] k p2] X.env := by rfl) (hpl : (backTo pos (starEach [.Tuple [.Name "tuple" p3, .Name "list" p4, .Name "dict" p5] k p2] X.env)).any (·.1) = false := by rfl)  :
    DE X (.Call (.Name "isinstance" p1) [e, .Tuple [.Name "tuple" p3, .Name "list" p4, .Name "dict" p5] k p2] [] pos) (wIsi is_tuple_list_dict we) :=
  d_isiT (cs := [.ty "tuple", .ty "list", .ty "dict"]) (us := [.type "tuple", .type "list", .type "dict"]) hm ha
    (pa_cons (pe_bltn (v := .ty "tuple") hg1 h1 (by decide +kernel) rfl) (pa_cons (pe_bltn (v := .ty "list") hg2 h2 (by decide +kernel) rfl) (pa_cons (pe_bltn (v := .ty "dict") hg3 h3 (by decide +kernel) rfl) pa_nil (by rfl)) (by rfl)) (by rfl))
    (fun _ _ _ q => q) (.cons (.ty _) (.cons (.ty _) (.cons (.ty _) .nil))) (by decide) (fun d => ty_tld d) hg hs hpl
end
/-! comparisons as tests -/
section
variable {X : Cx} {a b : Expr} {wa wb : WE} {pos p1 : Pos}
theorem tc_cmp {op : CmpOp} {r : R2} {wr} (ho : OpR X (compareOp op) r) (hr : SR X.K r wr) (ha : DE X a wa) (hb : DE X b wb) (hm : behindInMarks op b = false) : DT X (.Compare a [op] [b] pos) (wTest (wOp wr wa wb)) :=
  let ⟨_, a1, a2⟩ := ha.ex; let ⟨_, b1, b2⟩ := hb.ex; ⟨_, pt_cmpR ho a1 b1 hm, st_tt (se_op hr a2 b2)⟩
theorem tc_lt (ha : DE X a wa) (hb : DE X b wb) : DT X (.Compare a [.Lt] [b] pos) (wTest (wOp (wI2 fun i j => .bl (decide (i < j))) wa wb)) := tc_cmp op_lt (sr_I0 fun _ _ _ => .bl _) ha hb (nomark _)
theorem tc_le (ha : DE X a wa) (hb : DE X b wb) : DT X (.Compare a [.LtE] [b] pos) (wTest (wOp (wI2 fun i j => .bl (decide (i ≤ j))) wa wb)) := tc_cmp op_le (sr_I0 fun _ _ _ => .bl _) ha hb (nomark _)
theorem tc_gt (ha : DE X a wa) (hb : DE X b wb) : DT X (.Compare a [.Gt] [b] pos) (wTest (wOp (wI2 fun i j => .bl (decide (j < i))) wa wb)) := tc_cmp op_gt (sr_I0 fun _ _ _ => .bl _) ha hb (nomark _)
theorem tc_ge (ha : DE X a wa) (hb : DE X b wb) : DT X (.Compare a [.GtE] [b] pos) (wTest (wOp (wI2 fun i j => .bl (decide (j ≤ i))) wa wb)) := tc_cmp op_ge (sr_I0 fun _ _ _ => .bl _) ha hb (nomark _)
theorem tc_eq (ha : DE X a wa) (hb : DE X b wb) : DT X (.Compare a [.Eq] [b] pos) (wTest (wOp wEq wa wb)) := tc_cmp op_eq sr_eq ha hb (nomark _)
theorem tc_ne (ha : DE X a wa) (hb : DE X b wb) : DT X (.Compare a [.NotEq] [b] pos) (wTest (wOp wNe wa wb)) := tc_cmp op_ne sr_ne ha hb (nomark _)
theorem tc_in (ha : DE X a wa) (hb : DE X b wb) (hm : behindInMarks .In b = false) : DT X (.Compare a [.In] [b] pos) (wTest (wOp (wIn false) wa wb)) := tc_cmp op_in_seq (sr_in false) ha hb hm
theorem tc_notin (ha : DE X a wa) (hb : DE X b wb) (hm : behindInMarks .NotIn b = false) : DT X (.Compare a [.NotIn] [b] pos) (wTest (wOp (wIn true) wa wb)) := tc_cmp op_notIn_seq (sr_in true) ha hb hm
theorem tc_isN {k : Nat} (ha : DE X a wa) : DT X (.Compare a [.Is] [.Constant .none k p1] pos) (wTest (wIsN wa)) := let ⟨_, a1, a2⟩ := ha.ex; ⟨_, pt_cmpR op_isN a1 pe_non (nomark _), st_tt (se_isN a2)⟩
theorem tc_notN {k : Nat} (ha : DE X a wa) : DT X (.Compare a [.IsNot] [.Constant .none k p1] pos) (wTest (wNotN wa)) := let ⟨_, a1, a2⟩ := ha.ex; ⟨_, pt_cmpR op_notN a1 pe_non (nomark _), st_tt (se_notN a2)⟩
theorem tc_isB {v : Bool} {k : Nat} (ha : DE X a wa) : DT X (.Compare a [.Is] [.Constant (.bool v) k p1] pos) (wTest (wIsB v wa)) := let ⟨_, a1, a2⟩ := ha.ex; ⟨_, pt_cmpR op_isBool a1 pe_bl (nomark _), st_tt (se_isB a2)⟩
end
/-! ### a def that leaves changed lists behind: they are forgotten -/
def Fg (R : KS) : KS := fun s M' => ∃ M : Sto, (∀ p o, M p = some o → M' p = some o) ∧ R s M
theorem Bh.fg {K : PySem.W.Frag} {D : Hp} {R : KS} {Q : VK} (h : Bh K D R Q) : Bh K D (Fg R) Q := fun v s D' M' H' e ok r ⟨M, hM, q⟩ => h v s D' M H' e ⟨ok.s, fun p o e => ok.m p o (hM p o e)⟩ r q
section
variable {P : Program} {w : World} {K : PySem.W.Frag} {mg : Str → Option Value} {base : Heap}
theorem fd_okF {x qual : Str} {st : Stmt} {f : Addr} {fd : FuncData} {N ps : List Str} {k : Nat} {wf : WF} {wb : WS} (F : Fun K x qual st f fd) (S : FnScope N ps (defScope st)) (len : ∀ ss M R, wf ss M R → ss.length = ps.length)
    (body : ∀ (cdv : Value) (A : Around) (outer : List Env) (s : Shared) (H : Hp) (E : XK), Room k (A.deeper (envOfC qual (defScope st) s.heap.objs.size f cdv)) → DSs (cxOf CX0 P w K mg base N qual (defScope st) f cdv A outer s H E).nox (defBody st) wb)
    (h : ∀ ss M R, wf ss M R → wb { nx := fun _ M => Fg R (.d .non) M, rt := Fg R } (startE N ss) M) : FnOk P w K mg base CX0 (k + 1) f fd ps (spW K wf) := by
  refine F.ok S (fun vs H Q E hs => ?_) (fun cdv A outer s H vs Q E hr hs => ?_)
  · obtain ⟨D, M, ss, R, ok, r, q, _⟩ := hs
    rw [Paired.length r]
    exact len ss M R q
  · obtain ⟨D, M, ss, R, ok, r, q, bh⟩ := hs
    obtain ⟨t, b1, b2⟩ := (body cdv A outer s H E hr).ex
    have bh := bh.fg
    refine ⟨t, b1, b2 D (L2.start N vs) (startE N ss) M H _ _ (RE.start r) ok (h ss M R q) ⟨fun σ γ D' M' H' s' ok' e' q' => bh .non (.d .non) D' M' H' s' ok' .non q', bh, fun σ γ D' M' H' s' ok' e' q' => q'.elim, fun σ γ D' M' H' s' ok' e' q' => q'.elim⟩⟩
end
end Lw
set_option Elab.async false
set_option linter.all false
set_option maxRecDepth 100000
set_option maxHeartbeats 4000000
namespace Lw
open PySem PySem.Spec PyProof.Rows L2
/-! ### equality of data of any depth -/
mutual
def pyD : Dt → PyData
  | .non => .none
  | .bl b => .bool b
  | .int i => .int i
  | .str x => .str x
  | .lst ds => .list (pyL ds)
  | .tup ds => .tuple (pyL ds)
def pyL : List Dt → List PyData
  | [] => []
  | d :: r => pyD d :: pyL r
end
section
variable {K : PySem.W.Frag} {D H : Hp}
mutual
theorem dp_of (e : Same D H) : ∀ (d : Dt) (v : V), Dq K D v d → Dp K H v (pyD d)
  | .non, _, h => by cases h; exact .non
  | .bl b, _, h => by cases h; exact .bl b
  | .int i, _, h => by cases h; exact .int i
  | .str x, _, h => by cases h; exact .str x
  | .lst ds, _, h => by cases h with | lst h1 h2 => exact .lst (SqL.of (e _ _ h1)) (dpL_of e ds _ h2)
  | .tup ds, _, h => by cases h with | tup h1 h2 => exact .tup (Same.sqt e h1) (dpL_of e ds _ h2)
theorem dpL_of (e : Same D H) : ∀ (ds : List Dt) (vs : List V), DqAll K D vs ds → DpAll K H vs (pyL ds)
  | [], _, h => by cases h; exact .nil
  | d :: r, _, h => by cases h with | cons h1 h2 => exact .cons (dp_of e d _ h1) (dpL_of e r _ h2)
end
def shp (d : Dt) : Prop := SeqAt.shaped (pyD d) = true
def eqDt (a b : Dt) : Bool := PyData.eqv (pyD a) (pyD b)
def wEqD : S → S → Sto → KS → Prop := fun x y M R => onD x fun a => onD y fun b => shp a ∧ shp b ∧ R (.d (.bl (eqDt a b))) M
def wNeD : S → S → Sto → KS → Prop := fun x y M R => onD x fun a => onD y fun b => shp a ∧ shp b ∧ R (.d (.bl (!eqDt a b))) M
theorem sr_eqD : SR K (rEqD K) wEqD := fun D M H x y s u R Q ok rx ry q k => by
  obtain ⟨a, rfl, q1⟩ := onD_inv q
  obtain ⟨b, rfl, s1, s2, q2⟩ := onD_inv q1
  exact ⟨_, _, dp_of ok.s a x rx, dp_of ok.s b y ry, s1, s2, k.here ok (s := .d (.bl _)) (.bl _) q2⟩
theorem sr_neD : SR K (rNeD K) wNeD := fun D M H x y s u R Q ok rx ry q k => by
  obtain ⟨a, rfl, q1⟩ := onD_inv q
  obtain ⟨b, rfl, s1, s2, q2⟩ := onD_inv q1
  exact ⟨_, _, dp_of ok.s a x rx, dp_of ok.s b y ry, s1, s2, k.here ok (s := .d (.bl _)) (.bl _) q2⟩
end
theorem Room.eqU {k : Nat} {A : Around} (h : Room k A) : A.units + 64 < cLine := by have := h.un; omega
section
variable {X : Cx} {a b : Expr} {wa wb : WE} {pos p1 : Pos}
theorem d_eqD {j : Nat} (hr : Room j X.A) (ha : DE X a wa) (hb : DE X b wb) : DE X (.Compare a [.Eq] [b] pos) (wOp wEqD wa wb) := d_cmp (op_eqD (Lw.Room.eqU hr)) sr_eqD ha hb (nomark _)
theorem d_neD {j : Nat} (hr : Room j X.A) (ha : DE X a wa) (hb : DE X b wb) : DE X (.Compare a [.NotEq] [b] pos) (wOp wNeD wa wb) := d_cmp (op_neD (Lw.Room.eqU hr)) sr_neD ha hb (nomark _)
theorem tc_eqD {j : Nat} (hr : Room j X.A) (ha : DE X a wa) (hb : DE X b wb) : DT X (.Compare a [.Eq] [b] pos) (wTest (wOp wEqD wa wb)) := tc_cmp (op_eqD (Lw.Room.eqU hr)) sr_eqD ha hb (nomark _)
theorem tc_neD {j : Nat} (hr : Room j X.A) (ha : DE X a wa) (hb : DE X b wb) : DT X (.Compare a [.NotEq] [b] pos) (wTest (wOp wNeD wa wb)) := tc_cmp (op_neD (Lw.Room.eqU hr)) sr_neD ha hb (nomark _)
end
theorem pyL_ints : ∀ ns : List Int, pyL (ns.map Dt.int) = ns.map PyData.int
  | [] => rfl
  | n :: r => by rw [List.map_cons, pyL, pyL_ints r]; rfl
theorem lay_ints : ∀ ns : List Int, PyData.canLayAll0 (ns.map PyData.int) = true
  | [] => by simp only [List.map_nil, PyData.canLayAll0]
  | n :: r => by
    have := lay_ints r
    simp only [List.map_cons, PyData.canLayAll0, PyData.canLay0, this, Bool.and_self]
theorem depth_ints : ∀ ns : List Int, PyData.depthAll (ns.map PyData.int) = 0
  | [] => by simp only [List.map_nil, PyData.depthAll]
  | n :: r => by
    have := depth_ints r
    simp only [List.map_cons, PyData.depthAll, PyData.depth, this]
    rfl
theorem shp_T (ns : List Int) : shp (.tup (ns.map Dt.int)) := by
  unfold shp
  rw [pyD, pyL_ints]
  have h := depth_ints ns
  show (PyData.canLay0 (.tuple (ns.map PyData.int)) && decide (PyData.depth (.tuple (ns.map PyData.int)) ≤ 64)) = true
  rw [Bool.and_eq_true]
  refine ⟨by simp only [PyData.canLay0]; exact lay_ints ns, decide_eq_true ?_⟩
  simp only [PyData.depth, h]
  decide
theorem eqvAll_ints : ∀ ns ms : List Int, PyData.eqvAll (ns.map PyData.int) (ms.map PyData.int) = decide (ns = ms)
  | [], [] => by simp only [List.map_nil, PyData.eqvAll]; rfl
  | [], m :: q => by simp only [List.map_nil, List.map_cons, PyData.eqvAll]; rfl
  | n :: r, [] => by simp only [List.map_nil, List.map_cons, PyData.eqvAll]; rfl
  | n :: r, m :: q => by
    simp only [List.map_cons, PyData.eqvAll, PyData.eqv, eqvAll_ints r q]
    by_cases h1 : n = m
    · subst h1
      by_cases h2 : r = q
      · subst h2; simp
      · simp [h2]
    · simp [h1]
theorem eqDt_T (ns ms : List Int) : eqDt (.tup (ns.map Dt.int)) (.tup (ms.map Dt.int)) = decide (ns = ms) := by
  unfold eqDt
  rw [pyD, pyD, pyL_ints, pyL_ints, PyData.eqv]
  exact eqvAll_ints ns ms
/-! ### from here on a list is data -/
def wFrz (i : Nat) (w : WS) : WS := fun W γ M => ∃ (p : Addr) (ds : List Dt), γ[i]? = some (some (.a p)) ∧ M p = some (.lst (ds.map S.d)) ∧ w W (γ.set i (some (.d (.lst ds)))) (del M p)
theorem RE.swap {K : PySem.W.Frag} {D : Hp} {σ : L2.St} {γ : En} {i : Nat} {v : V} {s : S} (h : RE K D σ γ) (e : σ[i]? = some (some v)) (r : RS K D v s) : RE K D σ (γ.set i (some s)) := by
  have h1 := h.set r i
  have h2 : σ.set i (some v) = σ := by
    apply List.ext_getElem?
    intro j
    by_cases hj : i = j
    · subst hj
      rw [List.getElem?_set_self (List.getElem?_eq_some_iff.mp e).1, e]
    · rw [List.getElem?_set_ne hj]
  rw [h2] at h1
  exact h1
theorem ss_frz {K : PySem.W.Frag} {i : Nat} {t : TS} {w : WS} (h : SS K t w) : SS K t (wFrz i w) := fun D σ γ M H W E e ok q k => by
  obtain ⟨p, ds, hi, hm, q⟩ := q
  obtain ⟨v, hv, r⟩ := e.2 i _ hi
  cases (show v = V.ref p from r)
  obtain ⟨D2, s2, ok2, r2⟩ := ok.frz hm
  exact h D2 σ _ _ H W E ((e.mono s2).swap hv (s := .d (.lst ds)) r2) ok2 q (k.at s2)
theorem s_frz {X : Cx} {st : List Stmt} {w : WS} (i : Nat) (h : DSs X st w) : DSs X st (wFrz i w) := let ⟨_, a1, a2⟩ := h.ex; ⟨_, a1, ss_frz a2⟩
end Lw
set_option linter.all false
set_option maxRecDepth 100000
set_option maxHeartbeats 4000000
namespace Lw
open PySem L2
abbrev I (n : Int) : S := .d (.int n)
abbrev T (ns : List Int) : S := .d (.tup (ns.map Dt.int))
abbrev L (ns : List Int) : S := .d (.lst (ns.map Dt.int))
theorem sz_le {n : Nat} (h : n ≤ 100000) : n ≤ sizeLine := Nat.le_trans h (by decide)
theorem sz_lt {n : Nat} (h : n < 100000) : n < sizeLine := Nat.lt_of_lt_of_le h (by decide)
/-- a comprehension whose elements do nothing else -/
theorem lcB_map {wi : WI} {we : WE} {j : Nat} {γ : En} {M : Sto} {Rf : List Dt → Sto → Prop} {xs : List S} (ys : List Dt) (hx : ∀ R : List S → Sto → Prop, R xs M → wi γ M R) (hz : xs.length < sizeLine) (hl : ys.length = xs.length)
    (he : ∀ (i : Nat) (x : S) (y : Dt), xs[i]? = some x → ys[i]? = some y → ∀ (M : Sto) (R : KS), R (.d y) M → we ((wipeE γ [j]).set j (some x)) M R) (hR : Rf ys M) : wLcB wi (wName j) wYes we [j] Rf γ M := by
  refine ⟨hx _ ⟨hz, fun i acc M' => M' = M ∧ acc = ys.take i, ⟨rfl, by simp⟩, ?_, ?_⟩⟩
  · rintro i x acc M' p hi ⟨rfl, rfl⟩ hp
    have hi2 : i < ys.length := by rw [hl]; exact (List.getElem?_eq_some_iff.mp hi).1
    refine he i x ys[i] hi (List.getElem?_eq_getElem hi2) _ _ ⟨ys[i], M', rfl, rfl, hp, rfl, ?_⟩
    rw [List.take_succ, List.getElem?_eq_getElem hi2]
    rfl
  · rintro acc M' ⟨rfl, rfl⟩
    rw [← hl, List.take_length]
    exact hR
theorem p128 : (0 : Int) < 128 := by decide
theorem cdiv {x j : Int} (h : 0 < j) (h2 : j < 2 ^ 30) : CDivW x j := wide_div h (b := 30) (by omega) (by decide) (by decide)
theorem one_sz : 1 ≤ sizeLine := by decide
theorem two_sz : 2 ≤ sizeLine := by decide
theorem ifT {c A B : Prop} [Decidable c] (h : c) (a : A) : if decide c = true then A else B := by rw [if_pos (decide_eq_true h)]; exact a
theorem ifF {c A B : Prop} [Decidable c] (h : ¬ c) (b : B) : if decide c = true then A else B := by rw [if_neg (by rw [decide_eq_false h]; decide)]; exact b
theorem ifD {c A B : Prop} [Decidable c] (a : c → A) (b : ¬ c → B) : if decide c = true then A else B := by
  by_cases h : c
  · exact ifT h (a h)
  · exact ifF h (b h)
theorem map_snoc (xs : List Int) (y : Int) : (xs.map fun n => S.d (.int n)) ++ [S.d (.int y)] = (xs ++ [y]).map fun n => S.d (.int n) := by simp
theorem map_dd (xs : List Int) : ((xs.map Dt.int).map S.d) = xs.map fun n => S.d (.int n) := by rw [List.map_map]; rfl
/-! ## the program -/
def wf_octets_of_number : WF := fun ss M R => ∃ n : Nat, ss = [I n] ∧ (digs n).length ≤ 1000 ∧ R (T (digs n)) M
abbrev N_octets_of_number : List Str := ["number", "found", "rest"]
def W_octets_of_number : WS := (wSeq (wAsg (wLstM wNil) (wName 1))
  (wSeq (wAsg (wVar 0) (wName 2))
  (wSeq (wWhile (wTest (wOp (wI2 fun i j => .bl (decide (j ≤ i))) (wVar 2) (wC (.int 128))))
  (wSeq (wDrop (wApp (wMut (wVar 1)) (wOp wPlus (wC (.int 128)) (wOp (wI2c (fun _ j => 0 < j) fun i j => .int (i % j)) (wVar 2) (wC (.int 128))))))
  (wAsg (wOp (wI2c CDivW fun i j => .int (i / j)) (wVar 2) (wC (.int 128))) (wName 2))))
  (wSeq (wDrop (wApp (wMut (wVar 1)) (wVar 2)))
  (wRet (wCB (w1 wTupOf) (wCons (wFz (wVar 1)) wNil)))))))

theorem len_octets_of_number : ∀ ss M R, wf_octets_of_number ss M R → ss.length = 1 := by rintro ss M R ⟨n, rfl, _⟩; rfl
theorem law_octets_of_number : ∀ ss M R, wf_octets_of_number ss M R → W_octets_of_number { nx := fun _ M => R (.d .non) M, rt := R } (startE N_octets_of_number ss) M := by
  rintro ss M R ⟨n, rfl, hl, h⟩
  refine ⟨Nat.zero_le _, fun p hp => ?_⟩
  refine ⟨fun m γ M' => ∃ acc : List Int, γ = [some (I n), some (.a p), some (I (m : Nat))] ∧ M' = put M p (.lst (acc.map fun n => S.d (.int n))) ∧ acc ++ digs m = digs n, ⟨n, [], rfl, rfl, rfl⟩, ?_⟩
  rintro m γ M' ⟨acc, rfl, rfl, e⟩
  have le := congrArg List.length e
  rw [List.length_append] at le
  have l1 : acc.length < sizeLine := sz_lt (by omega)
  refine ifD (fun h128 => ?_) fun h128 => ?_
  · refine ⟨⟨p, _, rfl, put_same⟩, p128, _, put_same, by simpa using l1, ?_⟩
    refine ⟨cdiv p128 (by decide), m / 128, by omega, acc ++ [128 + (m : Int) % 128], ?_, ?_, ?_⟩
    · show [some (I n), some (.a p), some (I ((m : Int) / 128))] = _
      rw [show ((m : Int) / 128) = ((m / 128 : Nat) : Int) by omega]
    · rw [put_put, map_snoc]
    · rw [← e, digs_ge (n := m) (by omega), List.append_assoc]
      rfl
  · refine ⟨⟨p, _, rfl, put_same⟩, _, put_same, by simpa using l1, ?_⟩
    rw [digs_lt (n := m) (by omega)] at e
    rw [put_put, map_snoc, e, ← map_dd]
    refine ⟨_, put_same, ?_⟩
    rw [del_put hp]
    exact h
def wf__law_number_octets : WF := fun ss M R => ∃ n : Nat, ss = [I n] ∧ (digs n).length ≤ 1000 ∧ R (L (digs n)) M
abbrev N__law_number_octets : List Str := ["number", "found", "rest"]
def W__law_number_octets : WS := (wSeq (wPar 1 2 (wCons (wLstM wNil) (wCons (wVar 0) wNil)))
  (wSeq (wWhile (wTest (wOp (wI2 fun i j => .bl (decide (j < i))) (wVar 2) (wC (.int 127))))
  (wSeq (wDrop (wApp (wMut (wVar 1)) (wOp wPlus (wOp (wI2c (fun _ j => 0 < j) fun i j => .int (i % j)) (wCB (w1 wIntOf) (wCons (wVar 2) wNil)) (wC (.int 128))) (wC (.int 128)))))
  (wAsg (wOp (wI2c CDivW fun i j => .int (i / j)) (wVar 2) (wC (.int 128))) (wName 2))))
  (wRet (wOp wPlus (wFz (wVar 1)) (wLst (wCons (wVar 2) wNil))))))

theorem len__law_number_octets : ∀ ss M R, wf__law_number_octets ss M R → ss.length = 1 := by rintro ss M R ⟨n, rfl, _⟩; rfl
theorem law__law_number_octets : ∀ ss M R, wf__law_number_octets ss M R → W__law_number_octets { nx := fun _ M => R (.d .non) M, rt := R } (startE N__law_number_octets ss) M := by
  rintro ss M R ⟨n, rfl, hl, h⟩
  refine ⟨Nat.zero_le _, fun p hp => ?_⟩
  refine ⟨fun m γ M' => ∃ acc : List Int, γ = [some (I n), some (.a p), some (I (m : Nat))] ∧ M' = put M p (.lst (acc.map fun n => S.d (.int n))) ∧ acc ++ digs m = digs n, ⟨n, [], rfl, rfl, rfl⟩, ?_⟩
  rintro m γ M' ⟨acc, rfl, rfl, e⟩
  have le := congrArg List.length e
  rw [List.length_append] at le
  have l1 : acc.length < sizeLine := sz_lt (by omega)
  refine ifD (fun h128 => ?_) fun h128 => ?_
  · refine ⟨⟨p, _, rfl, put_same⟩, p128, _, put_same, by simpa using l1, ?_⟩
    refine ⟨cdiv p128 (by decide), m / 128, by omega, acc ++ [(m : Int) % 128 + 128], ?_, ?_, ?_⟩
    · show [some (I n), some (.a p), some (I ((m : Int) / 128))] = _
      rw [show ((m : Int) / 128) = ((m / 128 : Nat) : Int) by omega]
    · rw [put_put, map_snoc]
    · rw [← e, digs_ge (n := m) (by omega), List.append_assoc, Int.add_comm]
      rfl
  · refine ⟨acc.map Dt.int, ?_, one_sz, ?_, ?_⟩
    · rw [put_same, map_dd]
    · rw [List.length_map]; simp; exact sz_le (by omega)
    · rw [digs_lt (n := m) (by omega)] at e
      rw [del_put hp]
      have e2 : acc.map Dt.int ++ [Dt.int m] = (digs n).map Dt.int := by rw [← e]; simp
      rw [e2]
      exact h
/-- the codes of a text -/
def codes (z : Str) : List Int := z.cps.toList.map fun (c : Nat) => (c : Int)
theorem digs_len1000 {n : Nat} (h : n ≤ 1000) : (digs n).length ≤ 1000 := Nat.le_trans (digs_length 1 n (by omega)) (by decide)
theorem codes_get {z : Str} {i : Nat} {x y} (h : (signs z)[i]? = some x) (g : ((codes z).map Dt.int)[i]? = some y) : ∃ c : Nat, x = .str ⟨#[c]⟩ ∧ y = .int c := by
  unfold signs at h
  unfold codes at g
  rw [List.getElem?_map] at h
  rw [List.map_map, List.getElem?_map] at g
  cases e : z.cps.toList[i]? with
  | none => rw [e] at h; cases h
  | some c => rw [e] at h g; cases h; cases g; exact ⟨c, rfl, rfl⟩
theorem codes_length (z : Str) : (codes z).length = z.length := by unfold codes; rw [List.length_map]; rfl
theorem signs_length (z : Str) : (signs z).length = z.length := by unfold signs; rw [List.length_map]; rfl
def wf_number_of : WF := fun ss M R => ∃ fs : List Int, ss = [L fs] ∧ fs ≠ [] ∧ fs.length ≤ 30000 ∧ (∀ f ∈ fs, 0 ≤ f ∧ f < 128) ∧ R (I (numB 128 fs)) M
abbrev N_number_of : List Str := ["figures", "row", "base", "pairs", "at"]
def W_number_of : WS := (wSeq (wAsg (wTup (wCons (wCB (w1 wListOf) (wCons (wVar 0) wNil)) (wCons (wC (.int 128)) wNil))) (wgTup 2 (wgCons (wName 1) (wgCons (wName 2) wgNil))))
  (wSeq (wWhile (wTest (wOp (wI2 fun i j => .bl (decide (j < i))) (wCB (w1 wLen) (wCons (wVar 1) wNil)) (wC (.int 1))))
  (wSeq (wAsg (wLcM (wiRng3 (wCons (wC (.int 0)) (wCons (wOp (wI2 fun i j => .int (i - j)) (wCB (w1 wLen) (wCons (wVar 1) wNil)) (wC (.int 1))) (wCons (wC (.int 2)) wNil)))) (wName 4) wYes (wOp wPlus (wOp wIx (wVar 1) (wVar 4)) (wOp wMul (wVar 2) (wOp wIx (wVar 1) (wOp wPlus (wVar 4) (wC (.int 1)))))) [4]) (wName 3))
  (wSeq (wIf (wTest (wOp wEq (wOp (wI2c (fun _ j => 0 < j) fun i j => .int (i % j)) (wCB (w1 wLen) (wCons (wVar 1) wNil)) (wC (.int 2))) (wC (.int 1))))
  (wDrop (wApp (wMut (wVar 3)) (wOp wIx (wVar 1) (wOp (wI2 fun i j => .int (i - j)) (wCB (w1 wLen) (wCons (wVar 1) wNil)) (wC (.int 1))))))
  wNext)
  (wSeq (wAsg (wFz (wVar 3)) (wName 1))
  (wAsg (wOp wMul (wVar 2) (wVar 2)) (wName 2))))))
  (wRet (wOp wIx (wVar 1) (wC (.int 0))))))

theorem len_number_of : ∀ ss M R, wf_number_of ss M R → ss.length = 1 := by rintro ss M R ⟨n, rfl, _⟩; rfl
theorem get_int {xs : List Int} {i : Nat} {x : Int} (h : xs[i]? = some x) : atI (xs.map Dt.int) (i : Int) = some (.int x) := atI_nat (by rw [List.getElem?_map, h]; rfl)
theorem map_int_get {xs : List Int} {i : Nat} {d : Dt} (h : (xs.map Dt.int)[i]? = some d) : ∃ x, xs[i]? = some x ∧ d = .int x := by
  rw [List.getElem?_map] at h
  cases e : xs[i]? with
  | none => rw [e] at h; cases h
  | some x => rw [e] at h; cases h; exact ⟨x, rfl, rfl⟩
theorem bits_of {x : Int} {e : Nat} (h0 : 0 ≤ x) (h : x < 128 ^ e) : x.natAbs < 2 ^ (7 * e) := by
  have : (2 : Nat) ^ (7 * e) = 128 ^ e := by rw [Nat.pow_mul]
  rw [this]
  have h2 : ((x.natAbs : Nat) : Int) < ((128 ^ e : Nat) : Int) := by
    rw [Int.natAbs_of_nonneg h0, Int.natCast_pow]
    exact h
  exact Int.ofNat_lt.mp h2
theorem rgC_two {n : Nat} (hn : n ≤ 30000) : RgC 0 ((n : Int) - 1) 2 (n / 2) := by
  refine ⟨by decide, by decide, ?_, ?_⟩
  · have e : Builtin.Range.rangeSize 0 ((n : Int) - 1) 2 = if (0 : Int) < (n : Int) - 1 then ((n : Int) - 1 - 0 - 1) / 2 + 1 else 0 := by unfold Builtin.Range.rangeSize; rw [if_pos (by decide)]
    unfold Builtin.Range.small
    rw [e]
    simp only [Builtin.Range.rangeFitsLong, Bool.and_eq_true, Bool.or_eq_true, decide_eq_true_eq, beq_iff_eq, show (2 : Int) > 0 by decide, if_true]
    split <;> omega
  · unfold Builtin.Range.rangeSize
    rw [if_pos (by decide)]
    by_cases h : (0 : Int) < (n : Int) - 1
    · rw [if_pos h]; omega
    · rw [if_neg h]; omega
theorem law_number_of : ∀ ss M R, wf_number_of ss M R → W_number_of { nx := fun _ M => R (.d .non) M, rt := R } (startE N_number_of ss) M := by
  rintro ss M R ⟨fs, rfl, hne, hl, hb, h⟩
  refine ⟨two_sz, rfl, ?_⟩
  refine ⟨fun m γ M' => ∃ (row : List Int) (e : Nat) (x4 : Option S) (x3 : Option S), γ = [some (L fs), some (L row), some (I (128 ^ e)), x3, x4] ∧ M' = M ∧ m = row.length ∧ row ≠ [] ∧ row.length ≤ 30000 ∧ 1 ≤ e ∧ e * (row.length - 1) ≤ 30000 ∧
    (∀ f ∈ row, 0 ≤ f ∧ f < 128 ^ e) ∧ numB (128 ^ e) row = numB 128 fs, ⟨fs.length, fs, 1, none, none, rfl, rfl, rfl, hne, hl, Nat.le_refl _, by omega, hb, rfl⟩, ?_⟩
  rintro m γ M' ⟨row, e, x4, x3, rfl, rfl, rfl, hr, hrl, he, hel, hrb, hv⟩
  have hpos : (0 : Int) < 128 ^ e := Int.pow_pos (by decide)
  refine ifD (fun h1 => ?_) fun h1 => ?_
  · have h1' : 1 < row.length := by
      have : (1 : Int) < ((row.map Dt.int).length : Nat) := h1
      rw [List.length_map] at this
      omega
    have hlen : (row.map Dt.int).length = row.length := List.length_map ..
    have hsz : e ≤ 30000 := by
      have : e * 1 ≤ e * (row.length - 1) := Nat.mul_le_mul_left e (by omega)
      omega
    refine lcB_map ((pr (128 ^ e) row).map Dt.int) (fun R r => ⟨row.length / 2, by show RgC 0 (((row.map Dt.int).length : Nat) - 1) 2 _; rw [hlen]; exact rgC_two hrl, r⟩) ?_ ?_ ?_ ?_
    · rw [List.length_map, rgD_length]; exact sz_lt (by omega)
    · rw [List.length_map, List.length_map, rgD_length, pr_length]
    · intro i x y hx hy M R r
      rw [List.getElem?_map] at hx
      have hi : i < row.length / 2 := by
        have := (List.getElem?_eq_some_iff.mp hy).1
        rw [List.length_map, pr_length] at this
        exact this
      rw [rgD_get hi] at hx
      cases hx
      obtain ⟨v, hv1, rfl⟩ := map_int_get hy
      have g1 : row[2 * i]? = some row[2 * i] := List.getElem?_eq_getElem (by omega)
      have g2 : row[2 * i + 1]? = some row[2 * i + 1] := List.getElem?_eq_getElem (by omega)
      have hp := pr_get (128 ^ e) row i _ _ g1 g2
      rw [hp] at hv1
      cases hv1
      have c1 : (0 : Int) + (i : Nat) * 2 = ((2 * i : Nat) : Int) := by omega
      have c2 : (0 : Int) + (i : Nat) * 2 + 1 = ((2 * i + 1 : Nat) : Int) := by omega
      refine ⟨.int row[2 * i], by rw [c1]; exact get_int g1, .int row[2 * i + 1], by show atI _ ((0 : Int) + (i : Nat) * 2 + 1) = _; rw [c2]; exact get_int g2, ?_, r⟩
      have hm := hrb _ (List.getElem_mem (show 2 * i + 1 < row.length by omega))
      exact wide_mul (a := 7 * e + 1) (b := 7 * e + 1) (Nat.lt_of_le_of_lt (Nat.le_of_eq (by rw [Int.natAbs_pow]; show 128 ^ e = 2 ^ (7 * e); rw [Nat.pow_mul])) (Nat.pow_lt_pow_right (by decide) (by omega))) (Nat.lt_of_lt_of_le (bits_of hm.1 hm.2) (Nat.pow_le_pow_right (by decide) (by omega))) (by omega) (by omega) (by omega)
    · intro p hp
      have hsq : (128 : Int) ^ e * 128 ^ e = 128 ^ (e + e) := (Int.pow_add 128 e e).symm
      have fin : ∀ row' : List Int, row' = pr (128 ^ e) row ++ lastOdd row → row'.length = (row.length + 1) / 2 →
          ∃ m', m' < row.length ∧ ∃ (row2 : List Int) (e2 : Nat) (x4' : Option S) (x3' : Option S), [some (L fs), some (L row'), some (I (128 ^ e * 128 ^ e)), some (.a p), x4] = [some (L fs), some (L row2), some (I (128 ^ e2)), x3', x4'] ∧ M' = M' ∧ m' = row2.length ∧ row2 ≠ [] ∧ row2.length ≤ 30000 ∧ 1 ≤ e2 ∧ e2 * (row2.length - 1) ≤ 30000 ∧
            (∀ f ∈ row2, 0 ≤ f ∧ f < 128 ^ e2) ∧ numB (128 ^ e2) row2 = numB 128 fs := by
        intro row' e1 e2
        refine ⟨row'.length, by omega, row', e + e, x4, some (.a p), by rw [hsq], rfl, rfl, fun z => ?_, by omega, by omega, ?_, ?_, ?_⟩
        · rw [z] at e2; simp at e2; omega
        · have : (e + e) * (row'.length - 1) ≤ e * (row.length - 1) := by
            rw [e2, show e + e = e * 2 by omega, Nat.mul_assoc]
            exact Nat.mul_le_mul_left e (by omega)
          omega
        · rw [e1, ← hsq]; exact pr_bound _ hpos row hrb
        · rw [e1, ← hsq, ← numB_pr]; exact hv
      have lo := lastOdd_eq row
      have cm : CMulW ((128 : Int) ^ e) (128 ^ e) := by
        have hb : ((128 : Int) ^ e).natAbs < 2 ^ (7 * e + 1) := Nat.lt_of_le_of_lt (Nat.le_of_eq (by rw [Int.natAbs_pow]; show 128 ^ e = 2 ^ (7 * e); rw [Nat.pow_mul])) (Nat.pow_lt_pow_right (by decide) (by omega))
        exact wide_mul hb hb (by omega) (by omega) (by omega)
      refine ⟨(by show (0 : Int) < 2; decide), rfl, ?_⟩
      refine ifD (fun hodd => ?_) fun hodd => ?_
      · have hodd' : row.length % 2 = 1 := by
          have : ((row.map Dt.int).length : Int) % 2 = 1 := hodd
          rw [hlen] at this
          omega
        obtain ⟨z, z1, z2⟩ := lo.1 hodd'
        refine ⟨⟨p, _, rfl, put_same⟩, .int z, by show atI _ (((row.map Dt.int).length : Nat) - 1) = _; rw [hlen, show ((row.length : Nat) : Int) - 1 = ((row.length - 1 : Nat) : Int) by omega]; exact get_int z1, _, put_same, by rw [List.length_map, List.length_map, pr_length]; exact sz_lt (by omega), ?_⟩
        refine ⟨(pr (128 ^ e) row ++ lastOdd row).map Dt.int, by rw [put_same, z2]; simp, cm, ?_⟩
        rw [put_put, del_put hp]
        refine fin _ rfl ?_
        rw [List.length_append, pr_length, z2, List.length_singleton]; omega
      · have hev : row.length % 2 = 0 := by
          have : ¬ ((row.map Dt.int).length : Int) % 2 = 1 := hodd
          rw [hlen] at this
          omega
        refine ⟨(pr (128 ^ e) row).map Dt.int, put_same, cm, ?_⟩
        rw [del_put hp]
        refine fin _ (by rw [lo.2 hev, List.append_nil]) ?_
        rw [pr_length]; omega
  · have h1' : row.length = 1 := by
      have : ¬ (1 : Int) < ((row.map Dt.int).length : Nat) := h1
      rw [List.length_map] at this
      have : 0 < row.length := List.length_pos_iff.mpr hr
      omega
    obtain ⟨x, rfl⟩ := List.length_eq_one_iff.mp h1'
    have : x = numB 128 fs := by
      rw [← hv]; simp [numB]
    rw [← this] at h
    exact ⟨_, rfl, h⟩
/-- the place behind the first octet below 128 -/
def bhD (ns : List Int) (at_ : Int) : Dt := if at_ < 0 then .non else if runL (ns.drop at_.toNat) < (ns.drop at_.toNat).length then .int (at_ + runL (ns.drop at_.toNat) + 1) else .non
def wf_behind_number : WF := fun ss M R => ∃ (ns : List Int) (at_ : Int), ss = [T ns, I at_] ∧ ns.length ≤ 100000 ∧ at_.natAbs < 2 ^ 60 ∧ R (.d (bhD ns at_)) M
abbrev N_behind_number : List Str := ["octets", "at", "place"]
def W_behind_number : WS := (wSeq (wIf (wTest (wOp (wI2 fun i j => .bl (decide (i < j))) (wVar 1) (wC (.int 0))))
  (wRet (wC .non))
  wNext)
  (wSeq (wFor (wiRng2 (wCons (wVar 1) (wCons (wCB (w1 wLen) (wCons (wVar 0) wNil)) wNil))) (wName 2)
  (wIf (wTest (wOp (wI2 fun i j => .bl (decide (i < j))) (wOp wIx (wVar 0) (wVar 2)) (wC (.int 128))))
  (wRet (wOp wPlus (wVar 2) (wC (.int 1))))
  wNext))
  (wRet (wC .non))))

theorem len_behind_number : ∀ ss M R, wf_behind_number ss M R → ss.length = 2 := by rintro ss M R ⟨n, a, rfl, _⟩; rfl
theorem get_at {ns : List Int} {a : Int} {i : Nat} {x : Int} (h0 : 0 ≤ a) (h : (ns.drop a.toNat)[i]? = some x) : atI (ns.map Dt.int) (a + (i : Nat)) = some (.int x) := by
  rw [List.getElem?_drop] at h
  have : a + (i : Nat) = ((a.toNat + i : Nat) : Int) := by omega
  rw [this]
  exact get_int h
theorem law_behind_number : ∀ ss M R, wf_behind_number ss M R → W_behind_number { nx := fun _ M => R (.d .non) M, rt := R } (startE N_behind_number ss) M := by
  rintro ss M R ⟨ns, a, rfl, hl, ha, h⟩
  refine ifD (fun h0 => ?_) fun h0 => ?_
  · have e : bhD ns a = .non := by unfold bhD; rw [if_pos h0]
    rw [e] at h
    exact h
  · have e : bhD ns a = if runL (ns.drop a.toNat) < (ns.drop a.toNat).length then .int (a + runL (ns.drop a.toNat) + 1) else .non := by unfold bhD; rw [if_neg h0]
    rw [e] at h
    refine ⟨⟨by omega, by omega, by show -(2 ^ 62) ≤ (((ns.map Dt.int).length : Nat) : Int); rw [List.length_map]; omega, by show (((ns.map Dt.int).length : Nat) : Int) < 2 ^ 62; rw [List.length_map]; omega⟩, ?_⟩
    have hn : ((((ns.map Dt.int).length : Nat) : Int) - a).toNat = (ns.drop a.toNat).length := by rw [List.length_map, List.length_drop]; omega
    refine ⟨fun i γ M' => M' = M ∧ (∃ x, γ = [some (T ns), some (I a), x]) ∧ i ≤ runL (ns.drop a.toNat), ⟨rfl, ⟨none, rfl⟩, Nat.zero_le _⟩, ?_, ?_⟩
    · rintro i x γ M' hx ⟨rfl, ⟨y, rfl⟩, hi⟩
      rw [List.getElem?_map] at hx
      have hi2 : i < (ns.drop a.toNat).length := by
        cases e : (rgD a ((((ns.map Dt.int).length : Nat) : Int) - a).toNat 1)[i]? with
        | none => rw [e] at hx; cases hx
        | some z =>
          have := (List.getElem?_eq_some_iff.mp e).1
          rw [rgD_length, hn] at this
          exact this
      rw [rgD_get (by rw [hn]; exact hi2)] at hx
      cases hx
      have g := List.getElem?_eq_getElem hi2
      generalize hz : (ns.drop a.toNat)[i] = z at g
      rw [Int.mul_one]
      refine ⟨.int z, get_at (by omega) g, ?_⟩
      refine ifD (fun h1 => ?_) fun h1 => ?_
      · have hr : runL (ns.drop a.toNat) = i := by
          by_cases hlt : i < runL (ns.drop a.toNat)
          · have := runL_lt _ i z hlt g; omega
          · omega
        rw [hr, if_pos hi2] at h
        exact h
      · refine ⟨rfl, ⟨_, rfl⟩, ?_⟩
        by_cases hlt : i < runL (ns.drop a.toNat)
        · exact hlt
        · have : i = runL (ns.drop a.toNat) := by omega
          subst this
          obtain ⟨x, h2, h3⟩ := runL_at _ hi2
          rw [g] at h2
          cases h2
          exact absurd h3 h1
    · rintro γ M' ⟨rfl, _, hi⟩
      rw [List.length_map, rgD_length, hn] at hi
      rw [if_neg (by omega)] at h
      exact h
def wf_number_in : WF := fun ss M R => ∃ (ns : List Int) (at_ : Int), ss = [T ns, I at_] ∧ ns.length ≤ 30000 ∧ at_.natAbs < 2 ^ 60 ∧ (∀ x ∈ ns, 0 ≤ x ∧ x < 256) ∧ R (.d (optN (numAt ns at_))) M
abbrev N_number_in : List Str := ["octets", "at", "end", "figures", "octet"]
def W_number_in : WS := (wSeq (wAsg (wCB wf_behind_number (wCons (wVar 0) (wCons (wVar 1) wNil))) (wName 2))
  (wSeq (wIf (wOr (wTest (wIsN (wVar 2))) (wAnd (wTest (wOp (wI2 fun i j => .bl (decide (j < i))) (wOp (wI2 fun i j => .int (i - j)) (wVar 2) (wVar 1)) (wC (.int 1)))) (wTest (wOp wEq (wOp wIx (wVar 0) (wOp (wI2 fun i j => .int (i - j)) (wVar 2) (wC (.int 1)))) (wC (.int 0))))))
  (wRet (wC .non))
  wNext)
  (wSeq (wAsg (wOp wPlus (wLcD (wiTup (wSl (wVar 0) (wPart (wVar 1)) (wPart (wOp (wI2 fun i j => .int (i - j)) (wVar 2) (wC (.int 1)))))) (wName 4) wYes (wOp (wI2 fun i j => .int (i - j)) (wVar 4) (wC (.int 128))) [4]) (wLst (wCons (wOp wIx (wVar 0) (wOp (wI2 fun i j => .int (i - j)) (wVar 2) (wC (.int 1)))) wNil))) (wName 3))
  (wRet (wTup (wCons (wCB wf_number_of (wCons (wVar 3) wNil)) (wCons (wVar 2) wNil)))))))

theorem len_number_in : ∀ ss M R, wf_number_in ss M R → ss.length = 2 := by rintro ss M R ⟨n, a, rfl, _⟩; rfl
theorem numAt_eq {ns : List Int} {a : Int} (h0 : 0 ≤ a) : numAt ns a = if runL (ns.drop a.toNat) < (ns.drop a.toNat).length then (if 0 < runL (ns.drop a.toNat) ∧ (ns.drop a.toNat)[runL (ns.drop a.toNat)]? = some 0 then none
    else some (numB 128 (((ns.drop a.toNat).take (runL (ns.drop a.toNat))).map (· - 128) ++ ((ns.drop a.toNat).drop (runL (ns.drop a.toNat))).take 1), a + runL (ns.drop a.toNat) + 1)) else none := by
  unfold numAt
  rw [if_neg (by omega), readN_eq]
  generalize hl : runL (ns.drop a.toNat) = l
  by_cases h1 : l < (ns.drop a.toNat).length
  · rw [if_pos h1, if_pos h1]
    by_cases h2 : 0 < l ∧ (ns.drop a.toNat)[l]? = some 0
    · rw [if_pos h2, if_pos ⟨.inr h2.1, h2.2⟩]
    · rw [if_neg h2, if_neg (fun q => q.1.elim (fun z => by cases z) fun z => h2 ⟨z, q.2⟩)]
      show some (_, a + ((l + 1 : Nat) : Int)) = _
      rw [show a + ((l + 1 : Nat) : Int) = a + l + 1 by omega]
  · rw [if_neg h1, if_neg h1]
theorem cut_mid {ns : List Int} {a : Int} {l : Nat} (h0 : 0 ≤ a) (hl : l < (ns.drop a.toNat).length) : cutG (ns.map Dt.int) (some a) (some (a + l + 1 - 1)) = ((ns.drop a.toNat).take l).map Dt.int := by
  have hd : (ns.drop a.toNat).length = ns.length - a.toNat := List.length_drop
  unfold cutG
  rw [List.length_map]
  have e1 : HT.sIx ns.length 0 (some a) = a.toNat := by
    have := HT.sIx_nat ns.length 0 a.toNat
    rw [show ((a.toNat : Nat) : Int) = a by omega] at this
    rw [this]; omega
  have e2 : HT.sIx ns.length ns.length (some (a + l + 1 - 1)) = a.toNat + l := by
    have := HT.sIx_nat ns.length ns.length (a.toNat + l)
    rw [show ((a.toNat + l : Nat) : Int) = a + l + 1 - 1 by omega] at this
    rw [this]; omega
  rw [e1, e2, Nat.add_sub_cancel_left, List.map_take, List.map_drop]
theorem law_number_in : ∀ ss M R, wf_number_in ss M R → W_number_in { nx := fun _ M => R (.d .non) M, rt := R } (startE N_number_in ss) M := by
  rintro ss M R ⟨ns, a, rfl, hl, ha, ho, h⟩
  refine ⟨ns, a, rfl, by omega, ha, ?_⟩
  by_cases h0 : a < 0
  · have e : bhD ns a = .non := by unfold bhD; rw [if_pos h0]
    have e2 : numAt ns a = none := by unfold numAt; rw [if_pos h0]
    rw [e]
    rw [e2] at h
    exact h
  · have e : bhD ns a = if runL (ns.drop a.toNat) < (ns.drop a.toNat).length then .int (a + runL (ns.drop a.toNat) + 1) else .non := by unfold bhD; rw [if_neg h0]
    rw [numAt_eq (by omega)] at h
    rw [e]
    generalize hr : runL (ns.drop a.toNat) = l at h
    by_cases h1 : l < (ns.drop a.toNat).length
    · rw [if_pos h1] at h ⊢
      have g := List.getElem?_eq_getElem h1
      generalize hz : (ns.drop a.toNat)[l] = z at g
      have gz : atI (ns.map Dt.int) (a + l + 1 - 1) = some (.int z) := by
        rw [show a + (l : Nat) + 1 - 1 = a + (l : Nat) by omega]
        exact get_at (by omega) g
      rw [g] at h
      have hzm : z ∈ ns := List.mem_of_mem_drop (List.mem_of_getElem? g)
      have hz128 : z < 128 := by
        obtain ⟨x, h2, h3⟩ := runL_at (ns.drop a.toNat) (by rw [hr]; exact h1)
        rw [hr, g] at h2
        cases h2
        exact h3
      have hlen : (((ns.map Dt.int).length : Nat) : Int) = ns.length := by rw [List.length_map]
      have rest : ∀ (hno : ¬ (0 < l ∧ z = 0)), wSeq (wAsg (wOp wPlus (wLcD (wiTup (wSl (wVar 0) (wPart (wVar 1)) (wPart (wOp (wI2 fun i j => .int (i - j)) (wVar 2) (wC (.int 1)))))) (wName 4) wYes (wOp (wI2 fun i j => .int (i - j)) (wVar 4) (wC (.int 128))) [4]) (wLst (wCons (wOp wIx (wVar 0) (wOp (wI2 fun i j => .int (i - j)) (wVar 2) (wC (.int 1)))) wNil))) (wName 3))
          (wRet (wTup (wCons (wCB wf_number_of (wCons (wVar 3) wNil)) (wCons (wVar 2) wNil)))) { nx := fun _ M => R (.d .non) M, rt := R } [some (T ns), some (I a), some (I (a + l + 1)), none, none] M := by
        intro hno
        have hfs : (((ns.drop a.toNat).take l).map (· - 128) ++ [z]).length = l + 1 := by rw [List.length_append, List.length_map, List.length_take, List.length_singleton]; omega
        have hld : (ns.drop a.toNat).length ≤ ns.length := by rw [List.length_drop]; omega
        refine lcB_map (xs := (((ns.drop a.toNat).take l).map Dt.int).map S.d) ((((ns.drop a.toNat).take l).map (· - 128)).map Dt.int) (fun R r => ?_) ?_ ?_ ?_ ?_
        · show R ((cutG (ns.map Dt.int) (some a) (some (a + l + 1 - 1))).map S.d) M
          rw [cut_mid (by omega) h1]
          exact r
        · simp only [List.length_map, List.length_take]; exact sz_lt (by omega)
        · simp
        · intro i x y hx hy M R r
          rw [List.getElem?_map] at hx
          cases e1 : ((ns.drop a.toNat).take l)[i]? with
          | none => rw [List.getElem?_map, e1] at hx; cases hx
          | some u =>
            rw [List.getElem?_map, e1] at hx
            cases hx
            rw [List.getElem?_map, List.getElem?_map, e1] at hy
            cases hy
            exact r
        · refine ⟨.int z, gz, one_sz, ?_, ?_⟩
          · simp only [List.length_map, List.length_take, List.length_singleton]; exact sz_le (by omega)
          · refine ⟨((ns.drop a.toNat).take l).map (· - 128) ++ [z], by simp [L], by simp, by rw [hfs]; omega, ?_, two_sz, ?_⟩
            · intro f hf
              rcases List.mem_append.mp hf with hf | hf
              · obtain ⟨u, hu, rfl⟩ := List.mem_map.mp hf
                obtain ⟨j, hj⟩ := List.mem_iff_getElem?.mp hu
                have hj2 : j < l := by
                  have := (List.getElem?_eq_some_iff.mp hj).1
                  rw [List.length_take] at this
                  omega
                rw [List.getElem?_take_of_lt hj2] at hj
                have g1 := runL_lt _ j u (by rw [hr]; exact hj2) hj
                have g2 := ho u (List.mem_of_mem_drop (List.mem_of_getElem? hj))
                omega
              · rw [List.mem_singleton] at hf
                subst hf
                exact ⟨(ho f hzm).1, hz128⟩
            · rw [if_neg (fun q => hno ⟨q.1, Option.some.inj q.2⟩)] at h
              have hd : ((ns.drop a.toNat).drop l).take 1 = [z] := by
                rw [List.drop_eq_getElem_cons h1, hz]
                rfl
              rw [hd] at h
              exact h
      refine ifD (fun c1 => ?_) fun c1 => ?_
      · refine ⟨.int z, gz, rfl, ?_⟩
        refine ifD (fun c2 => ?_) fun c2 => ?_
        · have c1' : (1 : Int) < a + l + 1 - a := c1
          rw [if_pos ⟨by omega, by rw [c2]⟩] at h
          exact h
        · exact rest fun q => c2 q.2
      · have c1' : ¬ (1 : Int) < a + l + 1 - a := c1
        exact rest fun q => by omega
    · rw [if_neg h1] at h ⊢
      exact h
def okO (o : Int) : Bool := decide (o = 10 ∨ (32 ≤ o ∧ o < 127 ∧ o ≠ 37))
def signD (o : Int) : Dt := if okO o = true then .str ⟨#[o.toNat]⟩ else .non
def progSigns : List Nat := [32, 33, 34, 35, 36, 10] ++ (List.range 89).map (· + 38)
theorem progSigns_eq : (Str.ofString " !\"#$\n&'()*+,-./0123456789:;<=>?@ABCDEFGHIJKLMNOPQRSTUVWXYZ[\\]^_`abcdefghijklmnopqrstuvwxyz{|}~").cps.toList = progSigns := by decide +kernel
theorem progSigns_get {k : Nat} (h : k < 95) (h5 : k ≠ 5) : progSigns[k]? = some (k + 32) := by
  have : ∀ k : Fin 95, k.val ≠ 5 → progSigns[k.val]? = some (k.val + 32) := by decide +kernel
  exact this ⟨k, h⟩ h5
theorem joinL_sing : ∀ l : List Nat, TL.joinL [] (l.map fun c => [c]) = l
  | [] => rfl
  | [c] => rfl
  | c :: d :: r => by
    show [c] ++ ([] ++ TL.joinL [] ((d :: r).map fun c => [c])) = c :: d :: r
    rw [joinL_sing (d :: r)]
    rfl
theorem join_sing (l : List Nat) : Txt.join (Str.ofString "") (l.map fun c => ⟨#[c]⟩) = ⟨l.toArray⟩ := by
  have h := SX.join_S [] (l.map fun c => [c])
  rw [List.map_map, joinL_sing] at h
  exact h
theorem sum_sing (l : List Nat) : ((l.map fun c => (⟨#[c]⟩ : Str)).map (·.length)).sum = l.length := by
  rw [List.map_map]
  induction l with
  | nil => rfl
  | cons c r ih => rw [List.map_cons, List.sum_cons, ih, List.length_cons, Nat.add_comm]; rfl
def txtD (some_ : List Int) (e : Int) : Dt := if some_.all okO = true then .tup [.str ⟨(some_.map Int.toNat).toArray⟩, .int e] else .non
def textAt (ns : List Int) (at_ : Int) : Dt := match numAt ns at_ with
  | none => .non
  | some (v, e) => if (ns.length : Int) - e < v then .non else txtD ((ns.drop e.toNat).take v.toNat) (v + e)
theorem numAt_bounds {ns : List Int} {a v e : Int} (ho : ∀ x ∈ ns, 0 ≤ x ∧ x < 256) (h : numAt ns a = some (v, e)) : 0 ≤ v ∧ 1 ≤ e ∧ e ≤ ns.length ∧ 0 ≤ a ∧ a < e := by
  unfold numAt at h
  split at h
  · cases h
  · split at h
    · cases h
    · rename_i h0 v' l q
      cases h
      have h1 := readN_len _ _ _ _ q
      have h2 := readN_nonneg _ _ _ _ (fun x hx => (ho x (List.mem_of_mem_drop hx)).1) q
      rw [List.length_drop] at h1
      omega
theorem cutG_from {α : Type} {xs : List α} {a b : Nat} (ha : a ≤ xs.length) (hb : b ≤ xs.length) (hab : a ≤ b) : cutG xs (some (a : Int)) (some (b : Int)) = (xs.drop a).take (b - a) := by
  unfold cutG
  rw [HT.sIx_nat, HT.sIx_nat, Nat.min_eq_left ha, Nat.min_eq_left hb]
theorem any_none (l : List Int) : inD .non (l.map signD) = !l.all okO := by
  unfold inD
  induction l with
  | nil => rfl
  | cons o r ih =>
    rw [List.map_cons, List.any_cons, List.all_cons, ih, Bool.not_and]
    have : eqV (toV (signD o)) (toV .non) = !okO o := by
      unfold signD
      cases h : okO o with
      | true => rw [if_pos rfl]; rfl
      | false => rw [if_neg (by decide)]; rfl
    rw [this]
theorem flat_signs (l : List Int) : (l.map signD).all flatD = true := by
  rw [List.all_map, List.all_eq_true]
  intro o _
  show flatD (signD o) = true
  unfold signD
  split <;> rfl
theorem signs_all {l : List Int} (h : l.all okO = true) : l.map signD = ((l.map Int.toNat).map fun c => (⟨#[c]⟩ : Str)).map Dt.str := by
  rw [List.map_map, List.map_map]
  apply List.map_congr_left
  intro o ho
  have := List.all_eq_true.mp h o ho
  unfold signD
  rw [if_pos this]
  rfl


def wf_number_octets : WF := wf_octets_of_number
abbrev N_number_octets : List Str := ["number"]
def W_number_octets : WS := (wRet (wCB wf_octets_of_number (wCons (wVar 0) wNil)))

theorem len_number_octets : ∀ ss M R, wf_number_octets ss M R → ss.length = 1 := len_octets_of_number
theorem law_number_octets : ∀ ss M R, wf_number_octets ss M R → W_number_octets { nx := fun _ M => R (.d .non) M, rt := R } (startE N_number_octets ss) M := by
  rintro ss M R ⟨n, rfl, h⟩
  exact ⟨n, rfl, h⟩






def wf_sum_of_octets : WF := fun ss M R => ∃ ns : List Int, ss = [T ns] ∧ (∀ x ∈ ns, 0 ≤ x ∧ x < 256) ∧ ns.length ≤ 100000 ∧ R (I (sumO 0 ns % 65521)) M
abbrev N_sum_of_octets : List Str := ["octets", "found", "at", "octet"]
def W_sum_of_octets : WS := (wSeq (wAsg (wC (.int 0)) (wName 1))
  (wSeq (wFor (wiEnT (wCons (wVar 0) wNil)) (wgTup 2 (wgCons (wName 2) (wgCons (wName 3) wgNil)))
  (wAug 1 (wI2 fun i j => .int (i + j)) (wOp wMul (wOp wPlus (wVar 2) (wC (.int 1))) (wVar 3))))
  (wRet (wOp (wI2c (fun _ j => 0 < j) fun i j => .int (i % j)) (wVar 1) (wC (.int 65521))))))

theorem len_sum_of_octets : ∀ ss M R, wf_sum_of_octets ss M R → ss.length = 1 := by rintro ss M R ⟨n, rfl, _⟩; rfl
theorem enD_ints : ∀ (ns : List Int) (k i : Nat) (d : S), ((enD k (ns.map Dt.int)).map S.d)[i]? = some d → ∃ x, ns[i]? = some x ∧ d = .d (.tup [.int ((k + i : Nat) : Int), .int x]) := by
  intro ns k i d h
  rw [List.getElem?_map] at h
  cases e : (ns.map Dt.int)[i]? with
  | none =>
    have : (enD k (ns.map Dt.int))[i]? = none := by
      rw [List.getElem?_eq_none_iff] at e ⊢
      rw [enD_length]; exact e
    rw [this] at h; cases h
  | some y =>
    rw [enD_get e] at h
    obtain ⟨x, hx, rfl⟩ := map_int_get e
    cases h
    exact ⟨x, hx, rfl⟩
theorem sumO_snoc : ∀ (ns : List Int) (k : Nat) (x : Int), sumO k (ns ++ [x]) = sumO k ns + ((k + ns.length : Nat) + 1 : Int) * x
  | [], k, x => by simp [sumO]
  | y :: r, k, x => by
    show (k + 1 : Int) * y + sumO (k + 1) (r ++ [x]) = (k + 1 : Int) * y + sumO (k + 1) r + _
    rw [sumO_snoc r (k + 1) x, List.length_cons, show k + 1 + r.length = k + (r.length + 1) by omega]
    omega
theorem cmul_small {i j : Int} (hi : i.natAbs < 2 ^ 40) (hj : j.natAbs < 2 ^ 40) : CMulW i j := wide_mul hi hj (by decide) (by decide) (by decide)
theorem law_sum_of_octets : ∀ ss M R, wf_sum_of_octets ss M R → W_sum_of_octets { nx := fun _ M => R (.d .non) M, rt := R } (startE N_sum_of_octets ss) M := by
  rintro ss M R ⟨ns, rfl, ho, hl, h⟩
  refine ⟨fun i γ M' => M' = M ∧ i ≤ ns.length ∧ ∃ x y, γ = [some (T ns), some (I (sumO 0 (ns.take i))), x, y], ⟨rfl, Nat.zero_le _, _, _, rfl⟩, ?_, ?_⟩
  · rintro i x γ M' hx ⟨rfl, _, u, v, rfl⟩
    obtain ⟨z, hz, rfl⟩ := enD_ints ns 0 i x hx
    have hi := (List.getElem?_eq_some_iff.mp hz).1
    have hm := ho z (List.mem_of_getElem? hz)
    refine ⟨rfl, cmul_small (by omega) (by omega), rfl, hi, some (I ((0 + i : Nat) : Int)), some (I z), ?_⟩
    have e : sumO 0 (ns.take (i + 1)) = sumO 0 (ns.take i) + (((0 + i : Nat) : Int) + 1) * z := by
      rw [List.take_succ, hz]
      show sumO 0 (ns.take i ++ [z]) = _
      rw [sumO_snoc, List.length_take, Nat.min_eq_left (by omega)]
    rw [e]
    rfl
  · rintro γ M' ⟨rfl, _, u, v, rfl⟩
    rw [List.length_map, enD_length, List.length_map, List.take_length]
    exact ⟨(by show (0 : Int) < 65521; decide), h⟩

/-! ## the law's own defs: the deal -/
abbrev Is (cs : List Int) : MO := .lst (cs.map fun n => S.d (.int n))
/-- a deal: a list [cells, mix] at da, the cells at ca -/
structure DealC (M : Sto) (da ca : Addr) (cs : List Int) (m : Int) : Prop where
  ne : da ≠ ca
  hd : M da = some (.lst [.a ca, I m])
  hc : M ca = some (Is cs)
  m0 : 0 ≤ m
  m1 : m < 2147483647
  len : cs.length ≤ 63
  nn : ∀ c ∈ cs, 0 ≤ c
def Deal (M : Sto) (da ca : Addr) : Prop := ∃ cs m, DealC M da ca cs m
def Off (da ca : Addr) (M M' : Sto) : Prop := ∀ q, q ≠ da → q ≠ ca → M' q = M q
section
variable {da ca : Addr} {M M' M2 : Sto}
theorem Off.refl : Off da ca M M := fun _ _ _ => rfl
theorem Off.trans (h : Off da ca M M') (g : Off da ca M' M2) : Off da ca M M2 := fun q h1 h2 => (g q h1 h2).trans (h q h1 h2)
theorem Off.putD {o : MO} (h : Off da ca M M') : Off da ca M (put M' da o) := fun q h1 h2 => (put_ne h1).trans (h q h1 h2)
theorem Off.putC {o : MO} (h : Off da ca M M') : Off da ca M (put M' ca o) := fun q h1 h2 => (put_ne h2).trans (h q h1 h2)
theorem DealC.mix {cs : List Int} {m m' : Int} (D : DealC M da ca cs m) (h0 : 0 ≤ m') (h1 : m' < 2147483647) : DealC (put M da (.lst [.a ca, I m'])) da ca cs m' :=
  ⟨D.ne, put_same, by rw [put_ne D.ne.symm]; exact D.hc, h0, h1, D.len, D.nn⟩
theorem DealC.cells {cs cs' : List Int} {m : Int} (D : DealC M da ca cs m) (hl : cs'.length ≤ 63) (hn : ∀ c ∈ cs', 0 ≤ c) : DealC (put M ca (Is cs')) da ca cs' m :=
  ⟨D.ne, by rw [put_ne D.ne]; exact D.hd, put_same, D.m0, D.m1, hl, hn⟩
theorem Deal.put {p : Addr} {o : MO} (D : Deal M da ca) (h1 : p ≠ da) (h2 : p ≠ ca) : Deal (put M p o) da ca := by
  obtain ⟨cs, m, D⟩ := D
  exact ⟨cs, m, D.ne, by rw [put_ne h1.symm]; exact D.hd, by rw [put_ne h2.symm]; exact D.hc, D.m0, D.m1, D.len, D.nn⟩
theorem Deal.del {p : Addr} (D : Deal M da ca) (h1 : p ≠ da) (h2 : p ≠ ca) : Deal (del M p) da ca := by
  obtain ⟨cs, m, D⟩ := D
  exact ⟨cs, m, D.ne, by rw [del_ne h1.symm]; exact D.hd, by rw [del_ne h2.symm]; exact D.hc, D.m0, D.m1, D.len, D.nn⟩
theorem Deal.off {p : Addr} (D : Deal M da ca) (h : M p = none) : p ≠ da ∧ p ≠ ca := by
  obtain ⟨cs, m, D⟩ := D
  exact ⟨fun z => (by subst z; rw [D.hd] at h; cases h), fun z => (by subst z; rw [D.hc] at h; cases h)⟩
end
theorem snocMap (cs : List Int) (c : Int) : ((cs ++ [c]).map fun n => S.d (.int n)) = (cs.map fun n => S.d (.int n)) ++ [I c] := by simp
theorem cmulS {i j : Int} (hi : i.natAbs < 2 ^ 60) (hj : j.natAbs < 2 ^ 60) : CMulW i j := wide_mul hi hj (by decide) (by decide) (by decide)
def wf__law_any : WF := fun ss M R => ∃ (da ca : Addr) (n : Int), ss = [.a da, I n] ∧ 0 < n ∧ n < 2 ^ 30 ∧ Deal M da ca ∧ ∀ (x : Int) M', 0 ≤ x → x < n → Deal M' da ca → Off da ca M M' → R (I x) M'
abbrev N__law_any : List Str := ["deal", "bound", "rest"]
def W__law_any : WS := (wSeq (wWhile (wAnd (wTest (wOp (wI2 fun i j => .bl (decide (j < i))) (wCB (w1 wLen) (wCons (wOp wIx (wVar 0) (wC (.int 0))) wNil)) (wC (.int 0)))) (wTest (wOp wEq (wOp wIx (wOp wIx (wVar 0) (wC (.int 0))) (wNeg (wC (.int 1)))) (wC (.int 0)))))
  (wDrop (wPop (wOp wIx (wVar 0) (wC (.int 0))))))
  (wSeq (wIf (wTest (wOp (wI2 fun i j => .bl (decide (j < i))) (wCB (w1 wLen) (wCons (wOp wIx (wVar 0) (wC (.int 0))) wNil)) (wC (.int 0))))
  (wSeq (wAsg (wCB (w1 wIntOf) (wCons (wPop (wOp wIx (wVar 0) (wC (.int 0)))) wNil)) (wName 2))
  (wSeq (wDrop (wApp (wMut (wOp wIx (wVar 0) (wC (.int 0)))) (wOp (wI2c CDivW fun i j => .int (i / j)) (wVar 2) (wVar 1))))
  (wRet (wOp (wI2c (fun _ j => 0 < j) fun i j => .int (i % j)) (wVar 2) (wVar 1)))))
  wNext)
  (wSeq (wAsg (wOp (wI2c (fun _ j => 0 < j) fun i j => .int (i % j)) (wCB (w1 wIntOf) (wCons (wOp wPlus (wOp wMul (wOp wIx (wVar 0) (wC (.int 1))) (wC (.int 48271))) (wC (.int 31))) wNil)) (wC (.int 2147483647))) (wgSub (wVar 0) (wC (.int 1))))
  (wRet (wOp (wI2c (fun _ j => 0 < j) fun i j => .int (i % j)) (wCB (w1 wIntOf) (wCons (wOp (wI2c CDivW fun i j => .int (i / j)) (wOp wIx (wVar 0) (wC (.int 1))) (wC (.int 64))) wNil)) (wVar 1))))))

theorem len__law_any : ∀ ss M R, wf__law_any ss M R → ss.length = 2 := by rintro ss M R ⟨_, _, _, rfl, _⟩; rfl
theorem law__law_any : ∀ ss M R, wf__law_any ss M R → W__law_any { nx := fun _ M => R (.d .non) M, rt := R } (startE N__law_any ss) M := by
  rintro ss M R ⟨da, ca, n, rfl, n0, n1, ⟨cs, m, D⟩, k⟩
  refine ⟨fun j γ M' => γ = [some (.a da), some (I n), none] ∧ ∃ cs' : List Int, j = cs'.length ∧ DealC M' da ca cs' m ∧ Off da ca M M', ⟨cs.length, rfl, cs, rfl, D, Off.refl⟩, ?_⟩
  rintro j γ M1 ⟨rfl, cs', rfl, D1, o1⟩
  refine ⟨_, _, D1.hd, rfl, _, D1.hc, ?_⟩
  rcases List.eq_nil_or_concat cs' with rfl | ⟨cs2, c, rfl⟩
  · refine ⟨_, _, D1.hd, rfl, _, D1.hc, ?_⟩
    refine ⟨_, _, D1.hd, rfl, ?_⟩
    refine ⟨cmulS (by have := D1.m0; have := D1.m1; omega) (by decide), ?_⟩
    refine ⟨(by show (0 : Int) < 2147483647; decide), _, 1, D1.hd, rfl, ?_⟩
    have h0 : 0 ≤ (m * 48271 + 31) % 2147483647 := Int.emod_nonneg _ (by decide)
    have h1 : (m * 48271 + 31) % 2147483647 < 2147483647 := Int.emod_lt_of_pos _ (by decide)
    refine ⟨_, _, put_same, rfl, ?_⟩
    refine ⟨cdiv (by decide) (by decide), ?_⟩
    refine ⟨n0, ?_⟩
    exact k _ _ (Int.emod_nonneg _ (by omega)) (Int.emod_lt_of_pos _ n0) ⟨_, _, D1.mix h0 h1⟩ o1.putD
  · have hc := D1.hc
    rw [List.concat_eq_append] at hc D1 ⊢
    have e1 : (Is (cs2 ++ [c])) = .lst ((cs2.map fun n => S.d (.int n)) ++ [I c]) := by unfold Is; rw [snocMap]
    rw [e1] at hc
    have hlen := D1.len
    rw [List.length_append, List.length_singleton] at hlen
    have nn2 : ∀ x ∈ cs2, 0 ≤ x := fun x hx => D1.nn x (List.mem_append_left _ hx)
    have c0 : 0 ≤ c := D1.nn c (by simp)
    refine ifT (c := (0 : Int) < (((cs2 ++ [c]).map fun n => S.d (.int n)).length : Nat)) (by simp) ?_
    refine ⟨_, _, D1.hd, rfl, _, _, hc, atI_last _ _, rfl, ?_⟩
    refine ifD (c := c = 0) (fun hz => ?_) fun hz => ?_
    · refine ⟨_, _, D1.hd, rfl, _, _, hc, ?_⟩
      exact ⟨cs2.length, by simp, rfl, cs2, rfl, D1.cells (by omega) nn2, o1.putC⟩
    · refine ⟨_, _, D1.hd, rfl, _, D1.hc, ?_⟩
      refine ifT (c := (0 : Int) < (((cs2 ++ [c]).map fun n => S.d (.int n)).length : Nat)) (by simp) ?_
      refine ⟨_, _, D1.hd, rfl, _, _, hc, ?_⟩
      have D2 := D1.cells (cs' := cs2) (by omega) nn2
      refine ⟨_, _, D2.hd, rfl, ⟨ca, _, rfl, put_same⟩, ?_⟩
      refine ⟨cdiv n0 n1, ?_⟩
      refine ⟨_, put_same, by rw [List.length_map]; exact sz_lt (by omega), ?_⟩
      refine ⟨n0, ?_⟩
      have D3 := D2.cells (cs' := cs2 ++ [c / n]) (by rw [List.length_append, List.length_singleton]; omega) (fun x hx => by
        rcases List.mem_append.mp hx with hx | hx
        · exact nn2 x hx
        · rw [List.mem_singleton] at hx; subst hx; exact Int.ediv_nonneg c0 (by omega))
      have e2 : Is (cs2 ++ [c / n]) = .lst ((cs2.map fun n => S.d (.int n)) ++ [I (c / n)]) := by unfold Is; rw [snocMap]
      rw [e2] at D3
      exact k _ _ (Int.emod_nonneg _ (by omega)) (Int.emod_lt_of_pos _ n0) ⟨_, _, D3⟩ o1.putC.putC
def OfS (s : S) (xs : List Dt) : Prop := s = .d (.lst xs) ∨ ∃ z : Str, s = .d (.str z) ∧ xs = signs z ∧ z.length ≤ 100000
def wf__law_of : WF := fun ss M R => ∃ (da ca : Addr) (s : S) (xs : List Dt), ss = [.a da, s] ∧ OfS s xs ∧ xs ≠ [] ∧ xs.length < 2 ^ 30 ∧ Deal M da ca ∧ ∀ x M', x ∈ xs → Deal M' da ca → Off da ca M M' → R (.d x) M'
abbrev N__law_of : List Str := ["deal", "some"]
def W__law_of : WS := (wRet (wOp wIx (wVar 1) (wCB wf__law_any (wCons (wVar 0) (wCons (wCB (w1 wLen) (wCons (wVar 1) wNil)) wNil)))))

theorem len__law_of : ∀ ss M R, wf__law_of ss M R → ss.length = 2 := by rintro ss M R ⟨_, _, _, _, rfl, _⟩; rfl
theorem law__law_of : ∀ ss M R, wf__law_of ss M R → W__law_of { nx := fun _ M => R (.d .non) M, rt := R } (startE N__law_of ss) M := by
  rintro ss M R ⟨da, ca, s, xs, rfl, ho, hne, hl, D, k⟩
  have pos : 0 < xs.length := List.length_pos_iff.mpr hne
  rcases ho with rfl | ⟨z, rfl, rfl, hz⟩
  · refine ⟨da, ca, xs.length, rfl, by omega, by omega, D, fun x M' h0 h1 D' o' => ?_⟩
    obtain ⟨i, rfl⟩ := Int.eq_ofNat_of_zero_le h0
    have hx : i < xs.length := by omega
    exact ⟨xs[i], atI_nat (List.getElem?_eq_getElem hx), k _ _ (List.getElem_mem hx) D' o'⟩
  · rw [signs_length] at pos hl
    refine ⟨sz_le hz, ?_⟩
    refine ⟨da, ca, z.length, rfl, by omega, by omega, D, fun x M' h0 h1 D' o' => ?_⟩
    obtain ⟨i, rfl⟩ := Int.eq_ofNat_of_zero_le h0
    have hx : i < z.cps.toList.length := by show i < z.length; omega
    refine ⟨sz_le hz, z.cps.toList[i], atI_nat (List.getElem?_eq_getElem hx), k _ _ ?_ D' o'⟩
    unfold signs
    exact List.mem_map_of_mem (f := fun c => Dt.str ⟨#[c]⟩) (List.getElem_mem hx)
def wf__law_octet : WF := fun ss M R => ∃ (da ca : Addr), ss = [.a da] ∧ Deal M da ca ∧ ∀ (x : Int) M', 0 ≤ x → x < 256 → Deal M' da ca → Off da ca M M' → R (I x) M'
abbrev N__law_octet : List Str := ["deal"]
def W__law_octet : WS := (wRet (wCB wf__law_of (wCons (wVar 0) (wCons (wLst (wCons (wC (.int 0)) (wCons (wC (.int 1)) (wCons (wC (.int 127)) (wCons (wC (.int 128)) (wCons (wC (.int 255)) (wCons (wCB wf__law_any (wCons (wVar 0) (wCons (wC (.int 256)) wNil))) (wCons (wCB wf__law_any (wCons (wVar 0) (wCons (wC (.int 256)) wNil))) (wCons (wCB wf__law_any (wCons (wVar 0) (wCons (wC (.int 128)) wNil))) wNil))))))))) wNil))))

theorem len__law_octet : ∀ ss M R, wf__law_octet ss M R → ss.length = 1 := by rintro ss M R ⟨_, _, rfl, _⟩; rfl
theorem law__law_octet : ∀ ss M R, wf__law_octet ss M R → W__law_octet { nx := fun _ M => R (.d .non) M, rt := R } (startE N__law_octet ss) M := by
  rintro ss M R ⟨da, ca, rfl, D, k⟩
  refine ⟨da, ca, 256, rfl, by decide, by decide, D, fun x1 M1 a1 b1 D1 o1 => ?_⟩
  refine ⟨da, ca, 256, rfl, by decide, by decide, D1, fun x2 M2 a2 b2 D2 o2 => ?_⟩
  refine ⟨da, ca, 128, rfl, by decide, by decide, D2, fun x3 M3 a3 b3 D3 o3 => ?_⟩
  refine ⟨sz_le (by simp), ?_⟩
  refine ⟨da, ca, _, _, rfl, .inl rfl, by simp, by simp, D3, fun x M' hx D' o' => ?_⟩
  have : ∃ v : Int, x = .int v ∧ 0 ≤ v ∧ v < 256 := by
    simp only [List.mem_cons, List.not_mem_nil, or_false] at hx
    rcases hx with rfl | rfl | rfl | rfl | rfl | rfl | rfl | rfl <;> exact ⟨_, rfl, by omega, by omega⟩
  obtain ⟨v, rfl, h0, h1⟩ := this
  exact k v M' h0 h1 D' (((o1.trans o2).trans o3).trans o')
/-- a comprehension whose elements draw -/
theorem lcB_draw {wi : WI} {we : WE} {j : Nat} {γ : En} {M : Sto} {da ca : Addr} {Rf : List Dt → Sto → Prop} {xs : List S} {P : Dt → Prop} (hD : Deal M da ca) (hx : ∀ R : List S → Sto → Prop, R xs M → wi γ M R) (hz : xs.length < sizeLine)
    (he : ∀ (x : S) (M : Sto) (R : KS), x ∈ xs → Deal M da ca → (∀ y M', P y → Deal M' da ca → Off da ca M M' → R (.d y) M') → we ((wipeE γ [j]).set j (some x)) M R)
    (hR : ∀ ys M', ys.length = xs.length → (∀ y ∈ ys, P y) → Deal M' da ca → Off da ca M M' → Rf ys M') : wLcB wi (wName j) wYes we [j] Rf γ M := by
  refine ⟨hx _ ⟨hz, fun i acc M' => acc.length = i ∧ (∀ y ∈ acc, P y) ∧ Deal M' da ca ∧ Off da ca M M', ⟨rfl, by simp, hD, Off.refl⟩, ?_, ?_⟩⟩
  · rintro i x acc M1 p hi ⟨rfl, hP, D1, o1⟩ hp
    have np := D1.off hp
    refine he x _ _ (List.mem_of_getElem? hi) (D1.put np.1 np.2) fun y M2 hy D2 o2 => ?_
    have h2 : M2 p = some (.lst (acc.map S.d)) := by rw [o2 p np.1 np.2, put_same]
    refine ⟨y, del M2 p, rfl, (put_del h2).symm, del_same, by simp, ?_, D2.del np.1 np.2, fun q h3 h4 => ?_⟩
    · intro z hz
      rcases List.mem_append.mp hz with hz | hz
      · exact hP z hz
      · rw [List.mem_singleton] at hz; subst hz; exact hy
    · by_cases hq : q = p
      · subst hq
        rw [del_same, ← o1 q h3 h4]
        exact hp.symm
      · rw [del_ne hq, o2 q h3 h4, put_ne hq, o1 q h3 h4]
  · rintro acc M1 ⟨hl, hP, D1, o1⟩
    exact hR acc M1 hl hP D1 o1
theorem ints_of {P : Int → Prop} : ∀ {ys : List Dt}, (∀ y ∈ ys, ∃ v : Int, y = .int v ∧ P v) → ∃ ns : List Int, ys = ns.map Dt.int ∧ ∀ n ∈ ns, P n
  | [], _ => ⟨[], rfl, by simp⟩
  | y :: r, h => by
    obtain ⟨v, rfl, hv⟩ := h y List.mem_cons_self
    obtain ⟨ns, rfl, hn⟩ := ints_of (ys := r) fun z hz => h z (List.mem_cons_of_mem _ hz)
    exact ⟨v :: ns, rfl, fun n hn' => (List.mem_cons.mp hn').elim (fun e => e ▸ hv) (hn n)⟩


theorem cutG_mem {α : Type} {xs : List α} {lo hi : Option Int} {x : α} (h : x ∈ cutG xs lo hi) : x ∈ xs := List.mem_of_mem_drop (List.mem_of_mem_take h)
theorem cutG_to {α : Type} (xs : List α) (b : Nat) : (cutG xs none (some (b : Int))).length ≤ b := by
  unfold cutG
  rw [HT.sIx_nat, List.length_take]
  have : HT.sIx xs.length 0 none = 0 := rfl
  rw [this]
  omega
theorem cutG_map {α β : Type} (f : α → β) (xs : List α) (lo hi : Option Int) : cutG (xs.map f) lo hi = (cutG xs lo hi).map f := by
  unfold cutG
  rw [List.length_map, List.map_take, List.map_drop]
theorem ints_dd (xs : List Int) : (xs.map Dt.int).map S.d = xs.map fun n => S.d (.int n) := map_dd xs
def wf__law_deal : WF := fun ss M R => ∃ (ns : List Int) (salt : Int), ss = [.scr ns, I salt] ∧ 0 ≤ salt ∧ salt < 1000 ∧ ∀ da ca M', Deal M' da ca → Off da ca M M' → M da = none → M ca = none → R (.a da) M'
abbrev N__law_deal : List Str := ["script", "salt", "most", "cells", "mix", "cell"]
def W__law_deal : WS := (wSeq (wAsg (wOp wMul (wOp wMul (wOp wMul (wOp wMul (wOp wMul (wOp (wI2c CPow fun i j => .int (i ^ j.toNat)) (wC (.int 10)) (wC (.int 64))) (wOp (wI2c CPow fun i j => .int (i ^ j.toNat)) (wC (.int 10)) (wC (.int 64)))) (wOp (wI2c CPow fun i j => .int (i ^ j.toNat)) (wC (.int 10)) (wC (.int 64)))) (wOp (wI2c CPow fun i j => .int (i ^ j.toNat)) (wC (.int 10)) (wC (.int 64)))) (wOp (wI2c CPow fun i j => .int (i ^ j.toNat)) (wC (.int 10)) (wC (.int 64)))) (wOp (wI2c CPow fun i j => .int (i ^ j.toNat)) (wC (.int 10)) (wC (.int 64)))) (wName 2))
  (wSeq (wPar 3 4 (wCons (wLcD (wiList (wSl (wVar 0) wNoP (wPart (wC (.int 63))))) (wName 5) wYes (wOp (wI2c (fun _ j => 0 < j) fun i j => .int (i % j)) (wCB (w1 wIntOf) (wCons (wCB (w1 wAbs) (wCons (wCB (w1 wIntOf) (wCons (wVar 5) wNil)) wNil)) wNil)) (wVar 2)) [5]) (wCons (wOp wPlus (wC (.int 70001)) (wOp wMul (wC (.int 7919)) (wVar 1))) wNil)))
  (wSeq (wFor (wiList (wVar 3)) (wName 5)
  (wAsg (wOp (wI2c (fun _ j => 0 < j) fun i j => .int (i % j)) (wCB (w1 wIntOf) (wCons (wOp wPlus (wOp wPlus (wOp wMul (wVar 4) (wC (.int 69621))) (wOp (wI2c (fun _ j => 0 < j) fun i j => .int (i % j)) (wCB (w1 wIntOf) (wCons (wVar 5) wNil)) (wC (.int 2147483563)))) (wC (.int 23))) wNil)) (wC (.int 2147483647))) (wName 4)))
  (wRet (wLstM (wCons (wRevM (wLcD (wiList (wVar 3)) (wName 5) (wTest (wOp (wI2 fun i j => .bl (decide (j ≤ i))) (wVar 5) (wOp (wI2c CPow fun i j => .int (i ^ j.toNat)) (wC (.int 10)) (wC (.int 18))))) (wVar 5) [5])) (wCons (wVar 4) wNil)))))))

theorem len__law_deal : ∀ ss M R, wf__law_deal ss M R → ss.length = 2 := by rintro ss M R ⟨_, _, rfl, _⟩; rfl
theorem law__law_deal : ∀ ss M R, wf__law_deal ss M R → W__law_deal { nx := fun _ M => R (.d .non) M, rt := R } (startE N__law_deal ss) M := by
  rintro ss M R ⟨ns, salt, rfl, s0, s1, k⟩
  have p10 : CPow (10 : Int) 64 := by unfold CPow; decide
  refine ⟨p10, p10, by unfold CMulW; decide +kernel, p10, by unfold CMulW; decide +kernel, p10, by unfold CMulW; decide +kernel, p10, by unfold CMulW; decide +kernel, p10, by unfold CMulW; decide +kernel, ?_⟩
  have mpos : (0 : Int) < 10 ^ (64 : Int).toNat * 10 ^ (64 : Int).toNat * 10 ^ (64 : Int).toNat * 10 ^ (64 : Int).toNat * 10 ^ (64 : Int).toNat * 10 ^ (64 : Int).toNat := by decide +kernel
  generalize (10 : Int) ^ (64 : Int).toNat * 10 ^ (64 : Int).toNat * 10 ^ (64 : Int).toNat * 10 ^ (64 : Int).toNat * 10 ^ (64 : Int).toNat * 10 ^ (64 : Int).toNat = most at mpos ⊢
  generalize hcs : cutG ns none (some 63) = cut
  have hcl : cut.length ≤ 63 := by rw [← hcs]; exact cutG_to ns 63
  refine lcB_map (xs := (cut.map Dt.int).map S.d) ((cut.map fun i => (if i < 0 then -i else i) % most).map Dt.int) (fun R r => ?_) ?_ ?_ ?_ ?_
  · show R (((cutG ns none (some 63)).map Dt.int).map S.d) M
    rw [hcs]
    exact r
  · rw [List.length_map, List.length_map]; exact sz_lt (by omega)
  · simp
  · intro i x y hx hy M R r
    rw [List.getElem?_map, List.getElem?_map] at hx
    rw [List.getElem?_map, List.getElem?_map] at hy
    cases e1 : cut[i]? with
    | none => rw [e1] at hx; cases hx
    | some u =>
      rw [e1] at hx hy
      cases hx
      cases hy
      exact ⟨mpos, r⟩
  have hnn : ∀ c ∈ cut.map (fun i => (if i < 0 then -i else i) % most), 0 ≤ c := by
    intro c hc
    obtain ⟨i, _, rfl⟩ := List.mem_map.mp hc
    exact Int.emod_nonneg _ (by omega)
  have hl2 : (cut.map (fun i => (if i < 0 then -i else i) % most)).length ≤ 63 := by rw [List.length_map]; exact hcl
  generalize cut.map (fun i => (if i < 0 then -i else i) % most) = cells at hnn hl2 ⊢
  refine ⟨cmulS (by decide) (by omega), ?_⟩
  refine ⟨fun i γ M' => M' = M ∧ ∃ (m : Int) (x : Option S), γ = [some (.scr ns), some (I salt), some (I most), some (L cells), some (I m), x] ∧ 0 ≤ m ∧ m < 2147483647, ⟨rfl, _, _, rfl, by omega, by omega⟩, ?_, ?_⟩
  · rintro i x γ M' hx ⟨rfl, m, y, rfl, m0, m1⟩
    rw [List.getElem?_map, List.getElem?_map] at hx
    cases e1 : cells[i]? with
    | none => rw [e1] at hx; cases hx
    | some u =>
      rw [e1] at hx
      cases hx
      refine ⟨cmulS (by omega) (by decide), ?_⟩
      refine ⟨(by show (0 : Int) < 2147483563; decide), ?_⟩
      refine ⟨(by show (0 : Int) < 2147483647; decide), rfl, _, _, rfl, Int.emod_nonneg _ (by decide), Int.emod_lt_of_pos _ (by decide)⟩
  · rintro γ M' ⟨rfl, m, y, rfl, m0, m1⟩
    refine ⟨?_⟩
    refine ⟨by rw [List.length_map, List.length_map]; exact sz_lt (by omega), fun i acc M2 => M2 = M' ∧ ∃ as : List Int, acc = as.map Dt.int ∧ as.length ≤ i ∧ ∀ a ∈ as, 0 ≤ a, ⟨rfl, [], rfl, Nat.le_refl _, by simp⟩, ?_, ?_⟩
    · rintro i x acc M2 p hx ⟨rfl, as, rfl, hal, han⟩ hp
      rw [List.getElem?_map, List.getElem?_map] at hx
      cases e1 : cells[i]? with
      | none => rw [e1] at hx; cases hx
      | some u =>
        rw [e1] at hx
        cases hx
        refine ⟨(by unfold CPow; decide), ?_⟩
        refine ifD (c := (10 : Int) ^ (18 : Int).toNat ≤ u) (fun _ => ?_) fun _ => ?_
        · refine ⟨.int u, M2, rfl, rfl, hp, rfl, as ++ [u], by simp, by simp; omega, ?_⟩
          intro a ha
          rcases List.mem_append.mp ha with ha | ha
          · exact han a ha
          · rw [List.mem_singleton] at ha; subst ha; exact hnn _ (List.mem_of_getElem? e1)
        · exact ⟨M2, rfl, hp, rfl, as, rfl, by omega, han⟩
    · rintro acc M2 ⟨rfl, as, rfl, hal, han⟩
      rw [List.length_map, List.length_map] at hal
      intro p hp
      refine ⟨two_sz, fun p2 hp2 => ?_⟩
      have np : p2 ≠ p := fun z => by rw [z, put_same] at hp2; cases hp2
      have e : ((as.map Dt.int).reverse.map S.d) = (as.reverse.map fun n => S.d (.int n)) := by rw [← List.map_reverse, map_dd]
      refine k p2 p _ ⟨as.reverse, m, np, put_same, ?_, m0, m1, by rw [List.length_reverse]; omega, fun c hc => han c (List.mem_reverse.mp hc)⟩ (fun q h1 h2 => ?_) ?_ hp
      · rw [put_ne np.symm, put_same, e]
      · rw [put_ne h1, put_ne h2]
      · rw [put_ne np] at hp2; exact hp2
def wf__law_is_kind : WF := fun ss M R => ∃ d : Dt, ss = [.d d, .d d] ∧ flatD d = true ∧ R (.d (.bl true)) M
abbrev N__law_is_kind : List Str := ["told", "due"]
def W__law_is_kind : WS := (wSeq (wIf (wTest (wIsN (wVar 1)))
  (wRet (wIsN (wVar 0)))
  wNext)
  (wSeq (wIf (wOr (wTest (wIsB true (wVar 1))) (wTest (wIsB false (wVar 1))))
  (wRet (wIfE (wTest (wVar 1)) (wIsB true (wVar 0)) (wIsB false (wVar 0))))
  wNext)
  (wSeq (wIf (wTest (wIsi is_str (wVar 1)))
  (wRet (wAndV (wIsi is_str (wVar 0)) (wOp wEq (wVar 0) (wVar 1))))
  wNext)
  (wRet (wAndV (wIsi is_int (wVar 0)) (wAndV (wNotV (wIsi is_bool (wVar 0))) (wOp wEq (wVar 0) (wVar 1))))))))

theorem len__law_is_kind : ∀ ss M R, wf__law_is_kind ss M R → ss.length = 2 := by rintro ss M R ⟨_, rfl, _⟩; rfl
theorem eqD_int (i : Int) : eqD (.int i) (.int i) = true := decide_eq_true rfl
theorem eqD_str (i : Str) : eqD (.str i) (.str i) = true := decide_eq_true rfl
theorem law__law_is_kind : ∀ ss M R, wf__law_is_kind ss M R → W__law_is_kind { nx := fun _ M => R (.d .non) M, rt := R } (startE N__law_is_kind ss) M := by
  rintro ss M R ⟨d, rfl, hf, h⟩
  cases d with
  | non => exact h
  | bl b =>
    cases b with
    | true => exact h
    | false => exact h
  | int i => exact ⟨rfl, by rw [eqD_int]; exact h⟩
  | str z => exact ⟨rfl, by rw [eqD_str]; exact h⟩
  | lst => cases hf
  | tup => cases hf
mutual
def szD : Dt → Nat
  | .tup ds => 1 + szL ds
  | _ => 1
def szL : List Dt → Nat
  | [] => 0
  | d :: r => szD d + szL r
end
mutual
def plD : Dt → Bool
  | .tup ds => plL ds
  | .lst _ => false
  | _ => true
def plL : List Dt → Bool
  | [] => true
  | d :: r => plD d && plL r
end
theorem szD_pos : ∀ d, 1 ≤ szD d
  | .tup ds => by unfold szD; omega
  | .non => by unfold szD; omega
  | .bl _ => by unfold szD; omega
  | .int _ => by unfold szD; omega
  | .str _ => by unfold szD; omega
  | .lst _ => by unfold szD; omega
theorem szL_append : ∀ xs ys, szL (xs ++ ys) = szL xs + szL ys
  | [], ys => by simp [szL]
  | x :: r, ys => by rw [List.cons_append, szL, szL, szL_append r ys]; omega
theorem szL_len : ∀ xs, xs.length ≤ szL xs
  | [] => Nat.zero_le _
  | x :: r => by rw [szL, List.length_cons]; have := szL_len r; have := szD_pos x; omega
theorem plL_append : ∀ xs ys, plL (xs ++ ys) = (plL xs && plL ys)
  | [], ys => by simp [plL]
  | x :: r, ys => by rw [List.cons_append, plL, plL, plL_append r ys, Bool.and_assoc]
def dup (d : Dt) : Dt := .tup [d, d]
theorem pairT_self : ∀ ds, pairT ds ds = ds.map dup
  | [] => rfl
  | d :: r => by show Dt.tup [d, d] :: pairT r r = _; rw [pairT_self r]; rfl
/-- a value that _law_same can look through -/
def Pln (d : Dt) : Prop := plD d = true ∧ szD d ≤ 100000
def wf__law_same : WF := fun ss M R => ∃ d : Dt, ss = [.d d, .d d] ∧ Pln d ∧ R (.d (.bl true)) M
abbrev N__law_same : List Str := ["told", "due", "todo", "one", "other"]
def W__law_same : WS := (wSeq (wAsg (wLstM (wCons (wTup (wCons (wVar 0) (wCons (wVar 1) wNil))) wNil)) (wName 2))
  (wSeq (wWhile (wTest (wOp (wI2 fun i j => .bl (decide (j < i))) (wCB (w1 wLen) (wCons (wVar 2) wNil)) (wC (.int 0))))
  (wSeq (wAsg (wPop (wVar 2)) (wgTup 2 (wgCons (wName 3) (wgCons (wName 4) wgNil))))
  (wSeq (wAsg (wIfE (wTest (wIsi is_own (wVar 3))) (wTup (wCons (wC (.str (Str.ofString "Answer"))) (wCons wNever (wCons wNever (wCons wNever wNil))))) (wVar 3)) (wName 3))
  (wIf (wTest (wIsi is_tuple (wVar 4)))
  (wSeq (wIf (wOr (wNot (wTest (wIsi is_tuple (wVar 3)))) (wTest (wOp wNe (wCB (w1 wLen) (wCons (wVar 3) wNil)) (wCB (w1 wLen) (wCons (wVar 4) wNil)))))
  (wRet (wC (.bl false)))
  wNext)
  (wAsg (wOp wPlusM (wFz (wVar 2)) (wCB wLz (wCons (wVar 3) (wCons (wVar 4) wNil)))) (wName 2)))
  (wIf (wOr (wTest (wIsi is_tuple_list_dict (wVar 3))) (wNot (wTest (wCB wf__law_is_kind (wCons (wVar 3) (wCons (wVar 4) wNil))))))
  (wRet (wC (.bl false)))
  wNext)))))
  (wRet (wC (.bl true)))))

theorem len__law_same : ∀ ss M R, wf__law_same ss M R → ss.length = 2 := by rintro ss M R ⟨_, rfl, _⟩; rfl
theorem dup_map (xs : List Dt) (y : Dt) : ((xs ++ [y]).map fun d => S.d (dup d)) = (xs.map fun d => S.d (dup d)) ++ [S.d (dup y)] := by simp
theorem law__law_same : ∀ ss M R, wf__law_same ss M R → W__law_same { nx := fun _ M => Fg R (.d .non) M, rt := Fg R } (startE N__law_same ss) M := by
  rintro ss M R ⟨d, rfl, ⟨hp, hz⟩, h⟩
  refine ⟨two_sz, one_sz, fun p hM => ?_⟩
  refine ⟨fun m γ M' => ∃ (p : Addr) (ps : List Dt) (x3 x4 : Option S), γ = [some (.d d), some (.d d), some (.a p), x3, x4] ∧ M' = put M p (.lst (ps.map fun d => S.d (dup d))) ∧ M p = none ∧ plL ps = true ∧ m = szL ps ∧ m ≤ 100000,
    ⟨szD d, p, [d], none, none, rfl, rfl, hM, by simp [plL, hp], by simp [szL], hz⟩, ?_⟩
  rintro m γ M' ⟨p, ps, x3, x4, rfl, rfl, hM, hpl, rfl, hm⟩
  refine ⟨_, put_same, ?_⟩
  rcases List.eq_nil_or_concat ps with rfl | ⟨ps2, e, rfl⟩
  · exact ⟨M, fun q o hq => by rw [put_ne (fun z => by rw [z, hM] at hq; cases hq)]; exact hq, h⟩
  · rw [List.concat_eq_append] at hpl hm ⊢
    rw [plL_append, Bool.and_eq_true] at hpl
    have he : plD e = true := by simpa [plL] using hpl.2
    have hsz : szL (ps2 ++ [e]) = szL ps2 + szD e := by rw [szL_append]; simp [szL]
    refine ifT (c := (0 : Int) < (((ps2 ++ [e]).map fun d => S.d (dup d)).length : Nat)) (by simp) ?_
    refine ⟨ps2.map (fun d => S.d (dup d)), S.d (dup e), by rw [put_same, dup_map], ?_⟩
    rw [put_put]
    refine ⟨rfl, ?_⟩
    have hpos := szD_pos e
    have next : ∃ m', m' < szL (ps2 ++ [e]) ∧ ∃ (p' : Addr) (ps : List Dt) (x3 x4 : Option S), [some (S.d d), some (.d d), some (.a p), some (.d e), some (.d e)] = [some (.d d), some (.d d), some (.a p'), x3, x4] ∧ put M p (.lst (ps2.map fun d => S.d (dup d))) = put M p' (.lst (ps.map fun d => S.d (dup d))) ∧ M p' = none ∧ plL ps = true ∧ m' = szL ps ∧ m' ≤ 100000 :=
      ⟨szL ps2, by omega, p, ps2, _, _, rfl, rfl, hM, hpl.1, rfl, by omega⟩
    cases e with
    | non => exact ⟨.non, rfl, rfl, next⟩
    | bl b => exact ⟨.bl b, rfl, rfl, next⟩
    | int i => exact ⟨.int i, rfl, rfl, next⟩
    | str z => exact ⟨.str z, rfl, rfl, next⟩
    | lst => cases he
    | tup ds =>
      refine ⟨rfl, ?_⟩
      have e1 : eqD (.int (ds.length : Nat)) (.int (ds.length : Nat)) = true := eqD_int _
      rw [e1]
      have hds : szD (.tup ds) = 1 + szL ds := by rw [szD]
      have hl := szL_len ds
      have hl2 := szL_len ps2
      refine ⟨ps2.map dup, by rw [put_same, List.map_map]; rfl, ?_⟩
      rw [del_put hM]
      refine ⟨rfl, sz_lt (by omega), ?_⟩
      refine ⟨by rw [List.length_map, pairT_length rfl]; exact sz_le (by omega), fun p2 hp2 => ?_⟩
      refine ⟨szL (ps2 ++ ds), by rw [szL_append]; omega, p2, ps2 ++ ds, some (.d (.tup ds)), some (.d (.tup ds)), rfl, ?_, hp2, ?_, rfl, by rw [szL_append]; omega⟩
      · rw [pairT_self, ← List.map_append, List.map_map]; rfl
      · rw [plL_append, hpl.1, Bool.true_and]
        have he' : plD (.tup ds) = plL ds := by rw [plD]
        rw [← he']; exact he
def wf__law_all : WF := fun ss M R => ∃ ds : List Dt, ss = [.d (.lst (ds.map dup))] ∧ (∀ d ∈ ds, Pln d) ∧ ds.length < 100000 ∧ R (.d (.bl true)) M
abbrev N__law_all : List Str := ["pairs", "told", "due"]
def W__law_all : WS := (wRet (wOp wEq (wCB (w1 wLen) (wCons (wLcD (wiList (wVar 0)) (wgTup 2 (wgCons (wName 1) (wgCons (wName 2) wgNil))) (wNot (wTest (wCB wf__law_same (wCons (wVar 1) (wCons (wVar 2) wNil))))) (wVar 1) [1, 2]) wNil)) (wC (.int 0))))

theorem len__law_all : ∀ ss M R, wf__law_all ss M R → ss.length = 1 := by rintro ss M R ⟨_, rfl, _⟩; rfl
theorem law__law_all : ∀ ss M R, wf__law_all ss M R → W__law_all { nx := fun _ M => R (.d .non) M, rt := R } (startE N__law_all ss) M := by
  rintro ss M R ⟨ds, rfl, hp, hz, h⟩
  refine ⟨?_⟩
  refine ⟨by rw [List.length_map, List.length_map]; exact sz_lt hz, fun i acc M' => M' = M ∧ acc = [], ⟨rfl, rfl⟩, ?_, ?_⟩
  · rintro i x acc M' p hx ⟨rfl, rfl⟩ hM
    rw [List.getElem?_map, List.getElem?_map] at hx
    cases e : ds[i]? with
    | none => rw [e] at hx; cases hx
    | some d =>
      rw [e] at hx
      cases hx
      exact ⟨rfl, d, rfl, hp d (List.mem_of_getElem? e), M', rfl, hM, rfl, rfl⟩
  · rintro acc M' ⟨rfl, rfl⟩
    exact ⟨rfl, h⟩
def wf__law_sum : WF := fun ss M R => ∃ ns : List Int, ss = [L ns] ∧ (∀ x ∈ ns, 0 ≤ x ∧ x < 256) ∧ ns.length < 100000 ∧ R (I (sumO 0 ns % 65521)) M
abbrev N__law_sum : List Str := ["octets", "at"]
def W__law_sum : WS := (wRet (wOp (wI2c (fun _ j => 0 < j) fun i j => .int (i % j)) (wCB (w1 wIntOf) (wCons (wCB (w1 wSum) (wCons (wLcD (wiRng1 (wCons (wCB (w1 wLen) (wCons (wVar 0) wNil)) wNil)) (wName 1) wYes (wOp wMul (wOp wIx (wVar 0) (wVar 1)) (wOp wPlus (wVar 1) (wC (.int 1)))) [1]) wNil)) wNil)) (wC (.int 65521))))

theorem len__law_sum : ∀ ss M R, wf__law_sum ss M R → ss.length = 1 := by rintro ss M R ⟨_, rfl, _⟩; rfl
def mulK : Nat → List Int → List Int
  | _, [] => []
  | k, x :: r => x * ((k : Int) + 1) :: mulK (k + 1) r
theorem mulK_sum : ∀ ns k, (mulK k ns).sum = sumO k ns
  | [], _ => rfl
  | x :: r, k => by
    show (x * ((k : Int) + 1) :: mulK (k + 1) r).sum = ((k : Int) + 1) * x + sumO (k + 1) r
    rw [List.sum_cons, mulK_sum r (k + 1), Int.mul_comm]
theorem mulK_length : ∀ ns k, (mulK k ns).length = ns.length
  | [], _ => rfl
  | x :: r, k => by rw [mulK, List.length_cons, List.length_cons, mulK_length r]
theorem mulK_get : ∀ (ns : List Int) (k i : Nat) (x : Int), ns[i]? = some x → (mulK k ns)[i]? = some (x * (((k + i : Nat) : Int) + 1))
  | [], _, _, _, h => by simp at h
  | y :: r, k, 0, x, h => by simp at h; subst h; rfl
  | y :: r, k, i + 1, x, h => by
    rw [mulK, List.getElem?_cons_succ, mulK_get r (k + 1) i x (by simpa using h), show k + 1 + i = k + (i + 1) by omega]
theorem law__law_sum : ∀ ss M R, wf__law_sum ss M R → W__law_sum { nx := fun _ M => R (.d .non) M, rt := R } (startE N__law_sum ss) M := by
  rintro ss M R ⟨ns, rfl, ho, hl, h⟩
  have hlen : (ns.map Dt.int).length = ns.length := List.length_map ..
  refine lcB_map (xs := (rgD 0 ns.length 1).map S.d) ((mulK 0 ns).map Dt.int) (fun R r => ?_) ?_ ?_ ?_ ?_
  · refine ⟨by omega, by rw [hlen]; omega, ?_⟩
    rw [hlen]
    exact r
  · rw [List.length_map, rgD_length]; exact sz_lt hl
  · rw [List.length_map, List.length_map, rgD_length, mulK_length]
  · intro i x y hx hy M R r
    have hi : i < ns.length := by
      have := (List.getElem?_eq_some_iff.mp hy).1
      rw [List.length_map, mulK_length] at this
      exact this
    have g := List.getElem?_eq_getElem hi
    rw [List.getElem?_map, rgD_get hi] at hx
    cases hx
    rw [List.getElem?_map, mulK_get ns 0 i _ g] at hy
    cases hy
    have hm := ho _ (List.getElem_mem hi)
    have e : (0 : Int) + (i : Nat) * 1 = ((0 + i : Nat) : Int) := by omega
    refine ⟨.int ns[i], ?_, ?_, ?_⟩
    · show atI _ ((0 : Int) + (i : Nat) * 1) = _
      rw [e, Nat.zero_add]; exact get_int g
    · exact cmulS (by omega) (by omega)
    · rw [e]; exact r
  · refine ⟨mulK 0 ns, rfl, ?_⟩
    refine ⟨(by show (0 : Int) < 65521; decide), ?_⟩
    rw [mulK_sum]
    exact h


def lawS : Str := Str.ofString " !\"#$&'()*+,-./0123456789:;<=>?@ABCDEFGHIJKLMNOPQRSTUVWXYZ[\\]^_`abcdefghijklmnopqrstuvwxyz{|}~\n"

theorem numB_snoc (b : Int) : ∀ (xs : List Int) (y : Int), numB b (xs ++ [y]) = numB b xs + b ^ xs.length * y
  | [], y => by simp [numB]
  | x :: r, y => by
    rw [List.cons_append, numB, numB, numB_snoc b r y, List.length_cons, Int.pow_succ, Int.mul_add, Int.mul_comm (b ^ r.length) b, Int.mul_assoc]
    omega
theorem take_succ_get {α : Type} {xs : List α} {k : Nat} {z : α} (h : xs[k]? = some z) : xs.take (k + 1) = xs.take k ++ [z] := by rw [List.take_succ, h]; rfl
def wf__law_number_at : WF := fun ss M R => ∃ (ns : List Int) (a : Int), ss = [L ns, I a] ∧ ns.length ≤ 30000 ∧ (∀ x ∈ ns, 0 ≤ x ∧ x < 256) ∧ R (.d (optN (numAt ns a))) M
abbrev N__law_number_at : List Str := ["octets", "at", "number", "base", "place"]
def W__law_number_at : WS := (wSeq (wPar3 2 3 4 (wCons (wC (.int 0)) (wCons (wC (.int 1)) (wCons (wVar 1) wNil))))
  (wSeq (wIf (wTest (wOp (wI2 fun i j => .bl (decide (i < j))) (wVar 1) (wC (.int 0))))
  (wRet (wC .non))
  wNext)
  (wSeq (wWhile (wAnd (wTest (wOp (wI2 fun i j => .bl (decide (i < j))) (wVar 4) (wCB (w1 wLen) (wCons (wVar 0) wNil)))) (wTest (wOp (wI2 fun i j => .bl (decide (j < i))) (wOp wIx (wVar 0) (wVar 4)) (wC (.int 127)))))
  (wPar3 2 3 4 (wCons (wOp wPlus (wVar 2) (wOp wMul (wVar 3) (wOp (wI2 fun i j => .int (i - j)) (wOp wIx (wVar 0) (wVar 4)) (wC (.int 128))))) (wCons (wOp wMul (wVar 3) (wC (.int 128))) (wCons (wOp wPlus (wVar 4) (wC (.int 1))) wNil)))))
  (wSeq (wIf (wOr (wTest (wOp (wI2 fun i j => .bl (decide (j ≤ i))) (wVar 4) (wCB (w1 wLen) (wCons (wVar 0) wNil)))) (wAnd (wTest (wOp (wI2 fun i j => .bl (decide (j < i))) (wVar 4) (wVar 1))) (wTest (wOp wEq (wOp wIx (wVar 0) (wVar 4)) (wC (.int 0))))))
  (wRet (wC .non))
  wNext)
  (wRet (wTup (wCons (wOp wPlus (wVar 2) (wOp wMul (wVar 3) (wOp wIx (wVar 0) (wVar 4)))) (wCons (wOp wPlus (wVar 4) (wC (.int 1))) wNil))))))))

theorem len__law_number_at : ∀ ss M R, wf__law_number_at ss M R → ss.length = 2 := by rintro ss M R ⟨n, a, rfl, _⟩; rfl
theorem law__law_number_at : ∀ ss M R, wf__law_number_at ss M R → W__law_number_at { nx := fun _ M => R (.d .non) M, rt := R } (startE N__law_number_at ss) M := by
  rintro ss M R ⟨ns, a, rfl, hl, ho, h⟩
  refine ifD (c := a < 0) (fun h0 => ?_) fun h0 => ?_
  · have e : numAt ns a = none := by unfold numAt; rw [if_pos h0]
    rw [e] at h
    exact h
  rw [numAt_eq (by omega)] at h
  have hdl : (ns.drop a.toNat).length = ns.length - a.toNat := List.length_drop
  have hlen : (((ns.map Dt.int).length : Nat) : Int) = (ns.length : Int) := by rw [List.length_map]
  have hle := runL_le (ns.drop a.toNat)
  have bits : ∀ k : Nat, k ≤ 30000 → ((128 : Int) ^ k).natAbs < 2 ^ (7 * k + 1) := fun k _ => Nat.lt_of_le_of_lt (Nat.le_of_eq (by rw [Int.natAbs_pow]; show 128 ^ k = 2 ^ (7 * k); rw [Nat.pow_mul])) (Nat.pow_lt_pow_right (by decide) (by omega))
  have cm : ∀ (k : Nat) (z : Int), k ≤ 30000 → z.natAbs < 2 ^ 60 → CMulW (128 ^ k) z := fun k z hk hz => wide_mul (bits k hk) hz (by omega) (by decide) (by omega)
  refine ⟨fun j γ M' => M' = M ∧ ∃ k : Nat, k ≤ runL (ns.drop a.toNat) ∧ j = runL (ns.drop a.toNat) - k ∧ γ = [some (L ns), some (I a), some (I (numB 128 (((ns.drop a.toNat).take k).map (· - 128)))), some (I (128 ^ k)), some (I (a + k))],
    ⟨_, rfl, 0, Nat.zero_le _, rfl, by simp [numB]; rfl⟩, ?_⟩
  rintro j γ M' ⟨rfl, k, hk, rfl, rfl⟩
  by_cases hk2 : k < runL (ns.drop a.toNat)
  · have hkd : k < (ns.drop a.toNat).length := by omega
    have g := List.getElem?_eq_getElem hkd
    generalize hz : (ns.drop a.toNat)[k] = z at g
    have h128 := runL_lt _ k z hk2 g
    have hz256 := (ho z (List.mem_of_mem_drop (List.mem_of_getElem? g))).2
    refine ifT (c := a + (k : Nat) < (((ns.map Dt.int).length : Nat) : Int)) (by rw [hlen]; omega) ?_
    refine ⟨.int z, get_at (by omega) g, ?_⟩
    refine ifT (c := 127 < z) (by omega) ?_
    refine ⟨.int z, get_at (by omega) g, cm k _ (by omega) (by omega), cm k _ (by omega) (by decide), ?_⟩
    refine ⟨runL (ns.drop a.toNat) - (k + 1), by omega, rfl, k + 1, by omega, rfl, ?_⟩
    have e1 : numB 128 (((ns.drop a.toNat).take (k + 1)).map (· - 128)) = numB 128 (((ns.drop a.toNat).take k).map (· - 128)) + 128 ^ k * (z - 128) := by
      rw [take_succ_get g, List.map_append]
      show numB 128 (_ ++ [z - 128]) = _
      rw [numB_snoc, List.length_map, List.length_take, Nat.min_eq_left (by omega)]
    rw [e1, Int.pow_succ, show a + ((k + 1 : Nat) : Int) = a + k + 1 by omega]
    rfl
  · have hk3 : k = runL (ns.drop a.toNat) := by omega
    by_cases h1 : runL (ns.drop a.toNat) < (ns.drop a.toNat).length
    · rw [if_pos h1] at h
      have g := List.getElem?_eq_getElem h1
      obtain ⟨z, g, hz⟩ := runL_at _ h1
      rw [← hk3] at g h h1
      refine ifT (c := a + (k : Nat) < (((ns.map Dt.int).length : Nat) : Int)) (by rw [hlen]; omega) ?_
      refine ⟨.int z, get_at (by omega) g, ?_⟩
      refine ifF (c := 127 < z) (by omega) ?_
      refine ifF (c := (((ns.map Dt.int).length : Nat) : Int) ≤ a + (k : Nat)) (by rw [hlen]; omega) ?_
      have fin : ¬ (0 < k ∧ z = 0) → ∃ v : Dt, atI (ns.map Dt.int) (a + k) = some v ∧ ∃ z, v = .int z ∧ CMulW (128 ^ k) z ∧ R (.d (.tup [.int (numB 128 (((ns.drop a.toNat).take k).map (· - 128)) + 128 ^ k * z), .int (a + k + 1)])) M' := fun hno => by
        refine ⟨.int z, get_at (by omega) g, z, rfl, cm k z (by omega) (by have := (ho z (List.mem_of_mem_drop (List.mem_of_getElem? g))); omega), ?_⟩
        rw [g, if_neg (fun q => hno ⟨q.1, Option.some.inj q.2⟩)] at h
        have hd : ((ns.drop a.toNat).drop k).take 1 = [z] := by
          have e := List.drop_eq_getElem_cons h1
          rw [List.getElem?_eq_getElem h1] at g
          cases g
          rw [e]
          rfl
        rw [hd, numB_snoc, List.length_map, List.length_take, Nat.min_eq_left (by omega)] at h
        exact h
      refine ifD (c := a < a + (k : Nat)) (fun c1 => ?_) fun c1 => ?_
      · refine ⟨.int z, get_at (by omega) g, rfl, ?_⟩
        refine ifD (c := z = 0) (fun c2 => ?_) fun c2 => ?_
        · rw [g, if_pos ⟨by omega, by rw [c2]⟩] at h
          exact h
        · obtain ⟨v, f1, y, rfl, f2, f3⟩ := fin fun q => c2 q.2
          exact ⟨_, f1, f2, two_sz, f3⟩
      · obtain ⟨v, f1, y, rfl, f2, f3⟩ := fin fun q => by omega
        exact ⟨_, f1, f2, two_sz, f3⟩
    · rw [if_neg h1] at h
      refine ifF (c := a + (k : Nat) < (((ns.map Dt.int).length : Nat) : Int)) (by rw [hlen]; omega) ?_
      refine ifT (c := (((ns.map Dt.int).length : Nat) : Int) ≤ a + (k : Nat)) (by rw [hlen]; omega) ?_
      exact h
def lawL : List Nat := lawS.cps.toList
theorem lawL_len : lawL.length = 95 := by decide +kernel
theorem lawS_len : lawS.length = 95 := by decide +kernel
theorem law_in : ∀ k : Fin 256, inD (.int (k.val : Int)) ((codes lawS).map Dt.int) = okO (k.val : Int) := by decide +kernel
theorem law_in' {o : Int} (h : 0 ≤ o ∧ o < 256) : inD (.int o) ((codes lawS).map Dt.int) = okO o := by
  have := law_in ⟨o.toNat, by omega⟩
  rw [show (((⟨o.toNat, by omega⟩ : Fin 256).val : Nat) : Int) = o by show ((o.toNat : Nat) : Int) = o; omega] at this
  exact this
theorem law_ok : ∀ c ∈ lawL, okO (c : Int) = true := by decide +kernel
theorem law_ix : ∀ k : Fin 127, okO (k.val : Int) = true → lawL[lawL.idxOf k.val]? = some k.val ∧ ∀ m < lawL.idxOf k.val, lawL[m]? ≠ some k.val := by decide +kernel
theorem okO_lt {o : Int} (h : okO o = true) : 0 ≤ o ∧ o < 127 := by
  unfold okO at h
  simp only [decide_eq_true_eq] at h
  omega
theorem law_ix' {o : Int} (h : okO o = true) : ∃ j : Nat, lawL[j]? = some o.toNat ∧ ∀ m : Nat, m < j → lawL[m]? ≠ some o.toNat := by
  have hb := okO_lt h
  have e : (((⟨o.toNat, by omega⟩ : Fin 127).val : Nat) : Int) = o := by show ((o.toNat : Nat) : Int) = o; omega
  have := law_ix ⟨o.toNat, by omega⟩ (by rw [e]; exact h)
  exact ⟨_, this.1, this.2⟩
theorem codes_at {j c : Nat} (h : lawL[j]? = some c) : ((codes lawS).map Dt.int)[j]? = some (.int c) := by
  unfold codes
  rw [List.map_map, List.getElem?_map]
  show (lawL[j]?).map _ = _
  rw [h]
  rfl
theorem codes_inv {j : Nat} {d : Dt} (h : ((codes lawS).map Dt.int)[j]? = some d) : ∃ c, lawL[j]? = some c ∧ d = .int c := by
  unfold codes at h
  rw [List.map_map, List.getElem?_map] at h
  change (lawL[j]?).map _ = _ at h
  cases e : lawL[j]? with
  | none => rw [e] at h; cases h
  | some c => rw [e] at h; cases h; exact ⟨c, rfl, rfl⟩
theorem eqV_int (a b : Int) : eqV (.int a) (.int b) = decide (a = b) := by
  unfold eqV
  first | rfl | simp
theorem flat_codes (z : Str) : ((codes z).map Dt.int).all flatD = true := by
  rw [List.all_map, List.all_eq_true]
  intro o _
  rfl


end Lw
set_option linter.all false
set_option maxRecDepth 100000
set_option maxHeartbeats 4000000
namespace Lw
open PySem L2
/-! ## frames -/
def pairO (b : List Int) : List Int := [sumO 0 b % 65521 % 256, sumO 0 b % 65521 / 256]
def frm (b : List Int) : List Int := digs b.length ++ b ++ pairO b
def frameAt (ns : List Int) (p : Int) : Option (List Int × Int) := match numAt ns p with
  | none => none
  | some (v, e) => if (ns.length : Int) - e < v + 2 then none else
    if (ns.drop (v + e).toNat).take 2 = pairO ((ns.drop e.toNat).take v.toNat) then some ((ns.drop e.toNat).take v.toNat, v + e + 2) else none
def optF : Option (List Int × Int) → Dt | none => .non | some (b, q) => .tup [.tup (b.map Dt.int), .int q]
theorem frameAt_some {ns b : List Int} {p q : Int} (ho : ∀ x ∈ ns, 0 ≤ x ∧ x < 256) (h : frameAt ns p = some (b, q)) : 0 ≤ p ∧ p + b.length + 3 ≤ q ∧ q ≤ ns.length ∧ ∀ x ∈ b, x ∈ ns := by
  unfold frameAt at h
  cases hN : numAt ns p with
  | none => rw [hN] at h; cases h
  | some t =>
    obtain ⟨v, e⟩ := t
    rw [hN] at h
    obtain ⟨b1, b2, b3, b4, b5⟩ := numAt_bounds ho hN
    have h : (if (ns.length : Int) - e < v + 2 then none else if (ns.drop (v + e).toNat).take 2 = pairO ((ns.drop e.toNat).take v.toNat) then some ((ns.drop e.toNat).take v.toNat, v + e + 2) else none) = some (b, q) := h
    split at h
    · cases h
    · split at h
      · cases h
        refine ⟨b4, ?_, by omega, fun x hx => List.mem_of_mem_drop (List.mem_of_mem_take hx)⟩
        rw [List.length_take, List.length_drop]
        omega
      · cases h
def frs : Nat → List Int → Int → List (List Int) × Int
  | 0, _, p => ([], p)
  | k + 1, ns, p => match frameAt ns p with
    | none => ([], p)
    | some (b, q) => (b :: (frs k ns q).1, (frs k ns q).2)
def framesOf (ns : List Int) : List (List Int) × Int := frs (ns.length + 1) ns 0
theorem frs_none {k : Nat} {ns : List Int} {p : Int} (h : frameAt ns p = none) : frs k ns p = ([], p) := by
  cases k with
  | zero => rfl
  | succ k => rw [frs, h]
theorem frs_some {k : Nat} {ns b : List Int} {p q : Int} (h : frameAt ns p = some (b, q)) : frs (k + 1) ns p = (b :: (frs k ns q).1, (frs k ns q).2) := by rw [frs, h]
/-- what is read is no more than what stands there -/
theorem frs_bound {ns : List Int} (ho : ∀ x ∈ ns, 0 ≤ x ∧ x < 256) : ∀ (k : Nat) (p : Int), 0 ≤ p → p ≤ ns.length → ((((frs k ns p).1.map fun b => b.length + 3).sum : Nat) : Int) ≤ (ns.length : Int) - p
  | 0, p, h0, h1 => by show (0 : Int) ≤ _; omega
  | k + 1, p, h0, h1 => by
    cases h : frameAt ns p with
    | none => rw [frs_none h]; show (0 : Int) ≤ _; omega
    | some t =>
      obtain ⟨b, q⟩ := t
      have hb := frameAt_some ho h
      have := frs_bound ho k q (by omega) hb.2.2.1
      rw [frs_some h, List.map_cons, List.sum_cons]
      omega
def bodiesT (bs : List (List Int)) : List Dt := bs.map fun b => .tup (b.map Dt.int)
def bodiesL (bs : List (List Int)) : List Dt := bs.map fun b => .lst (b.map Dt.int)
def frD (r : List (List Int) × Int) : Dt := .tup [.tup (bodiesT r.1), .int r.2]
def wf_sum_pair : WF := fun ss M R => ∃ ns : List Int, ss = [T ns] ∧ (∀ x ∈ ns, 0 ≤ x ∧ x < 256) ∧ ns.length ≤ 100000 ∧ R (T (pairO ns)) M
abbrev N_sum_pair : List Str := ["body", "found"]
def W_sum_pair : WS := (wSeq (wAsg (wCB wf_sum_of_octets (wCons (wVar 0) wNil)) (wName 1))
  (wRet (wTup (wCons (wOp (wI2c (fun _ j => 0 < j) fun i j => .int (i % j)) (wVar 1) (wC (.int 256))) (wCons (wOp (wI2c CDivW fun i j => .int (i / j)) (wVar 1) (wC (.int 256))) wNil)))))

theorem len_sum_pair : ∀ ss M R, wf_sum_pair ss M R → ss.length = 1 := by rintro ss M R ⟨n, rfl, _⟩; rfl
theorem law_sum_pair : ∀ ss M R, wf_sum_pair ss M R → W_sum_pair { nx := fun _ M => R (.d .non) M, rt := R } (startE N_sum_pair ss) M := by
  rintro ss M R ⟨ns, rfl, ho, hl, h⟩
  refine ⟨ns, rfl, ho, hl, ?_⟩
  exact ⟨(by show (0 : Int) < 256; decide), cdiv (by decide) (by decide), two_sz, h⟩
def wf_frame : WF := fun ss M R => ∃ ns : List Int, ss = [T ns] ∧ (∀ x ∈ ns, 0 ≤ x ∧ x < 256) ∧ ns.length ≤ 30000 ∧ R (T (frm ns)) M
abbrev N_frame : List Str := ["body"]
def W_frame : WS := (wRet (wOp wPlus (wOp wPlus (wCB wf_number_octets (wCons (wCB (w1 wLen) (wCons (wVar 0) wNil)) wNil)) (wCB (w1 wTupOf) (wCons (wVar 0) wNil))) (wCB wf_sum_pair (wCons (wVar 0) wNil))))

theorem len_frame : ∀ ss M R, wf_frame ss M R → ss.length = 1 := by rintro ss M R ⟨n, rfl, _⟩; rfl
theorem digs3 {n : Nat} (h : n ≤ 30000) : (digs n).length ≤ 3 := digs_length 2 n (by omega)
theorem law_frame : ∀ ss M R, wf_frame ss M R → W_frame { nx := fun _ M => R (.d .non) M, rt := R } (startE N_frame ss) M := by
  rintro ss M R ⟨ns, rfl, ho, hl, h⟩
  have hm : (ns.map Dt.int).length = ns.length := List.length_map ..
  have h3 := digs3 hl
  refine ⟨ns.length, by rw [hm], by omega, ?_⟩
  refine ⟨?_, ns, rfl, ho, by omega, ?_, ?_⟩
  · rw [List.length_map, hm]; exact sz_le (by omega)
  · rw [List.length_append, List.length_map, hm, List.length_map]; show _ + _ + 2 ≤ _; exact sz_le (by omega)
  · rw [← List.map_append, ← List.map_append]; exact h
def wf_frame_at : WF := fun ss M R => ∃ (ns : List Int) (p : Int), ss = [T ns, I p] ∧ ns.length ≤ 30000 ∧ p.natAbs < 2 ^ 60 ∧ (∀ x ∈ ns, 0 ≤ x ∧ x < 256) ∧ R (.d (optF (frameAt ns p))) M
abbrev N_frame_at : List Str := ["octets", "at", "told", "end", "body"]
def W_frame_at : WS := (wSeq (wAsg (wCB wf_number_in (wCons (wVar 0) (wCons (wVar 1) wNil))) (wName 2))
  (wSeq (wIf (wOr (wTest (wIsN (wVar 2))) (wTest (wOp (wI2 fun i j => .bl (decide (j < i))) (wOp wPlus (wOp wIx (wVar 2) (wC (.int 0))) (wC (.int 2))) (wOp (wI2 fun i j => .int (i - j)) (wCB (w1 wLen) (wCons (wVar 0) wNil)) (wOp wIx (wVar 2) (wC (.int 1)))))))
  (wRet (wC .non))
  wNext)
  (wSeq (wAsg (wOp wPlus (wOp wIx (wVar 2) (wC (.int 0))) (wOp wIx (wVar 2) (wC (.int 1)))) (wName 3))
  (wSeq (wAsg (wSl (wVar 0) (wPart (wOp wIx (wVar 2) (wC (.int 1)))) (wPart (wVar 3))) (wName 4))
  (wSeq (wIf (wTest (wOp wNeD (wSl (wVar 0) (wPart (wVar 3)) (wPart (wOp wPlus (wVar 3) (wC (.int 2))))) (wCB wf_sum_pair (wCons (wVar 4) wNil))))
  (wRet (wC .non))
  wNext)
  (wRet (wTup (wCons (wVar 4) (wCons (wOp wPlus (wVar 3) (wC (.int 2))) wNil)))))))))

theorem len_frame_at : ∀ ss M R, wf_frame_at ss M R → ss.length = 2 := by rintro ss M R ⟨n, a, rfl, _⟩; rfl
theorem law_frame_at : ∀ ss M R, wf_frame_at ss M R → W_frame_at { nx := fun _ M => R (.d .non) M, rt := R } (startE N_frame_at ss) M := by
  rintro ss M R ⟨ns, p, rfl, hl, hp, ho, h⟩
  refine ⟨ns, p, rfl, hl, hp, ho, ?_⟩
  unfold frameAt at h
  cases hN : numAt ns p with
  | none => rw [hN] at h; exact h
  | some t =>
    obtain ⟨v, e⟩ := t
    rw [hN] at h
    obtain ⟨b1, b2, b3, b4, b5⟩ := numAt_bounds ho hN
    have h : R (.d (optF (if (ns.length : Int) - e < v + 2 then none else if (ns.drop (v + e).toNat).take 2 = pairO ((ns.drop e.toNat).take v.toNat) then some ((ns.drop e.toNat).take v.toNat, v + e + 2) else none))) M := h
    refine ⟨_, rfl, _, rfl, ?_⟩
    refine ifD (fun c => ?_) fun c => ?_
    · have c' : (((ns.map Dt.int).length : Nat) : Int) - e < v + 2 := c
      rw [List.length_map] at c'
      rw [if_pos c'] at h
      exact h
    have c' : ¬ (((ns.map Dt.int).length : Nat) : Int) - e < v + 2 := c
    rw [List.length_map] at c'
    rw [if_neg c'] at h
    have cut1 : cutG (ns.map Dt.int) (some e) (some (v + e)) = ((ns.drop e.toNat).take v.toNat).map Dt.int := by
      have := cutG_from (xs := ns.map Dt.int) (a := e.toNat) (b := (v + e).toNat) (by rw [List.length_map]; omega) (by rw [List.length_map]; omega) (by omega)
      rw [show ((e.toNat : Nat) : Int) = e by omega, show (((v + e).toNat : Nat) : Int) = v + e by omega] at this
      rw [this, List.map_take, List.map_drop, show (v + e).toNat - e.toNat = v.toNat by omega]
    have cut2 : cutG (ns.map Dt.int) (some (v + e)) (some (v + e + 2)) = ((ns.drop (v + e).toNat).take 2).map Dt.int := by
      have := cutG_from (xs := ns.map Dt.int) (a := (v + e).toNat) (b := (v + e + 2).toNat) (by rw [List.length_map]; omega) (by rw [List.length_map]; omega) (by omega)
      rw [show (((v + e).toNat : Nat) : Int) = v + e by omega, show (((v + e + 2).toNat : Nat) : Int) = v + e + 2 by omega] at this
      rw [this, List.map_take, List.map_drop, show (v + e + 2).toNat - (v + e).toNat = 2 by omega]
    have hbo : ∀ x ∈ (ns.drop e.toNat).take v.toNat, 0 ≤ x ∧ x < 256 := fun x hx => ho x (List.mem_of_mem_drop (List.mem_of_mem_take hx))
    have hbl : ((ns.drop e.toNat).take v.toNat).length ≤ 30000 := by rw [List.length_take, List.length_drop]; omega
    generalize (ns.drop e.toNat).take v.toNat = b at h cut1 hbo hbl
    generalize (ns.drop (v + e).toNat).take 2 = t at h cut2
    refine ⟨_, rfl, _, rfl, _, rfl, ?_⟩
    refine ⟨b, congrArg (fun x => [S.d (.tup x)]) cut1, hbo, by omega, ?_⟩
    refine ⟨?_, shp_T _, ?_⟩
    · have := shp_T t
      rw [← cut2] at this
      exact this
    have e1 : eqDt (.tup (cutG (ns.map Dt.int) (some (v + e)) (some (v + e + 2)))) (.tup ((pairO b).map Dt.int)) = decide (t = pairO b) := by rw [cut2, eqDt_T]
    by_cases ht : t = pairO b
    · rw [if_pos ht] at h
      have e2 : (!eqDt (.tup (cutG (ns.map Dt.int) (some (v + e)) (some (v + e + 2)))) (.tup ((pairO b).map Dt.int))) = false := by rw [e1, decide_eq_true ht]; rfl
      show if (!eqDt (.tup (cutG (ns.map Dt.int) (some (v + e)) (some (v + e + 2)))) (.tup ((pairO b).map Dt.int))) = true then _ else _
      rw [e2]
      refine ⟨two_sz, ?_⟩
      show R (.d (.tup [.tup (cutG (ns.map Dt.int) (some e) (some (v + e))), .int (v + e + 2)])) M
      rw [cut1]
      exact h
    · rw [if_neg ht] at h
      have e2 : (!eqDt (.tup (cutG (ns.map Dt.int) (some (v + e)) (some (v + e + 2)))) (.tup ((pairO b).map Dt.int))) = true := by rw [e1, decide_eq_false ht]; rfl
      show if (!eqDt (.tup (cutG (ns.map Dt.int) (some (v + e)) (some (v + e + 2)))) (.tup ((pairO b).map Dt.int))) = true then _ else _
      rw [e2]
      exact h
def wf_frames : WF := fun ss M R => ∃ ns : List Int, ss = [T ns] ∧ ns.length ≤ 30000 ∧ (∀ x ∈ ns, 0 ≤ x ∧ x < 256) ∧ R (.d (frD (framesOf ns))) M
abbrev N_frames : List Str := ["octets", "bodies", "place", "told"]
def W_frames : WS := (wSeq (wAsg (wCB (w1 wTupOf) (wCons (wVar 0) wNil)) (wName 0))
  (wSeq (wPar 1 2 (wCons (wLstM wNil) (wCons (wC (.int 0)) wNil)))
  (wSeq (wAsg (wCB wf_frame_at (wCons (wVar 0) (wCons (wC (.int 0)) wNil))) (wName 3))
  (wSeq (wWhile (wTest (wNotN (wVar 3)))
  (wSeq (wDrop (wApp (wMut (wVar 1)) (wOp wIx (wVar 3) (wC (.int 0)))))
  (wSeq (wAsg (wOp wIx (wVar 3) (wC (.int 1))) (wName 2))
  (wAsg (wCB wf_frame_at (wCons (wVar 0) (wCons (wVar 2) wNil))) (wName 3)))))
  (wRet (wTup (wCons (wCB (w1 wTupOf) (wCons (wFz (wVar 1)) wNil)) (wCons (wVar 2) wNil))))))))

theorem len_frames : ∀ ss M R, wf_frames ss M R → ss.length = 1 := by rintro ss M R ⟨n, rfl, _⟩; rfl
theorem law_frames : ∀ ss M R, wf_frames ss M R → W_frames { nx := fun _ M => R (.d .non) M, rt := R } (startE N_frames ss) M := by
  rintro ss M R ⟨ns, rfl, hl, ho, h⟩
  refine ⟨Nat.zero_le _, fun pp hp => ?_⟩
  refine ⟨ns, 0, rfl, hl, by decide, ho, ?_⟩
  refine ⟨fun m γ M' => ∃ (p : Int) (acc : List (List Int)), γ = [some (T ns), some (.a pp), some (I p), some (.d (optF (frameAt ns p)))] ∧ M' = put M pp (.lst ((bodiesT acc).map S.d)) ∧ 0 ≤ p ∧ p ≤ ns.length ∧ (ns.length : Int) - p < m ∧ acc.length ≤ p ∧
    acc ++ (frs m ns p).1 = (framesOf ns).1 ∧ (frs m ns p).2 = (framesOf ns).2, ⟨ns.length + 1, 0, [], rfl, rfl, by decide, by omega, by omega, by decide, rfl, rfl⟩, ?_⟩
  rintro m γ M' ⟨p, acc, rfl, rfl, p0, p1, hm, hal, e1, e2⟩
  cases hf : frameAt ns p with
  | none =>
    rw [frs_none hf] at e1 e2
    rw [List.append_nil] at e1
    refine ⟨_, put_same, two_sz, ?_⟩
    rw [del_put hp, e1]
    have e2 : p = (framesOf ns).2 := e2
    rw [e2]
    exact h
  | some t =>
    obtain ⟨b, q⟩ := t
    have hb := frameAt_some ho hf
    refine ⟨⟨pp, _, rfl, put_same⟩, _, rfl, _, put_same, ?_, ?_⟩
    · rw [List.length_map]; unfold bodiesT; rw [List.length_map]; exact sz_lt (by omega)
    refine ⟨_, rfl, ?_⟩
    refine ⟨ns, q, rfl, hl, by omega, ho, ?_⟩
    obtain ⟨m', rfl⟩ : ∃ m', m = m' + 1 := ⟨m - 1, by omega⟩
    rw [frs_some hf] at e1 e2
    refine ⟨m', by omega, q, acc ++ [b], rfl, ?_, by omega, hb.2.2.1, by omega, by rw [List.length_append, List.length_singleton]; omega, ?_, e2⟩
    · rw [put_put]
      unfold bodiesT
      rw [List.map_append, List.map_append]
      rfl
    · rw [List.append_assoc]
      exact e1
def wf__law_framed : WF := fun ss M R => ∃ ns : List Int, ss = [L ns] ∧ (∀ x ∈ ns, 0 ≤ x ∧ x < 256) ∧ ns.length ≤ 30000 ∧ R (L (frm ns)) M
abbrev N__law_framed : List Str := ["body", "total"]
def W__law_framed : WS := (wSeq (wAsg (wCB wf__law_sum (wCons (wVar 0) wNil)) (wName 1))
  (wRet (wOp wPlus (wOp wPlus (wCB wf__law_number_octets (wCons (wCB (w1 wLen) (wCons (wVar 0) wNil)) wNil)) (wVar 0)) (wLst (wCons (wOp (wI2c (fun _ j => 0 < j) fun i j => .int (i % j)) (wCB (w1 wIntOf) (wCons (wVar 1) wNil)) (wC (.int 256))) (wCons (wOp (wI2c CDivW fun i j => .int (i / j)) (wVar 1) (wC (.int 256))) wNil))))))

theorem len__law_framed : ∀ ss M R, wf__law_framed ss M R → ss.length = 1 := by rintro ss M R ⟨n, rfl, _⟩; rfl
theorem law__law_framed : ∀ ss M R, wf__law_framed ss M R → W__law_framed { nx := fun _ M => R (.d .non) M, rt := R } (startE N__law_framed ss) M := by
  rintro ss M R ⟨ns, rfl, ho, hl, h⟩
  have hm : (ns.map Dt.int).length = ns.length := List.length_map ..
  have h3 := digs3 hl
  refine ⟨ns, rfl, ho, by omega, ?_⟩
  refine ⟨ns.length, by rw [hm], by omega, ?_⟩
  refine ⟨?_, (by show (0 : Int) < 256; decide), cdiv (by decide) (by decide), two_sz, ?_, ?_⟩
  · rw [List.length_map, hm]; exact sz_le (by omega)
  · rw [List.length_append, List.length_map, hm]; show _ + _ + 2 ≤ _; exact sz_le (by omega)
  · rw [← List.map_append]
    have e : (digs ns.length ++ ns).map Dt.int ++ [Dt.int (sumO 0 ns % 65521 % 256), Dt.int (sumO 0 ns % 65521 / 256)] = (frm ns).map Dt.int := by
      unfold frm
      rw [List.map_append (l₂ := pairO ns)]
      rfl
    rw [e]
    exact h
def wf__law_joined : WF := fun ss M R => ∃ rows : List (List Int), ss = [.d (.lst (bodiesL rows))] ∧ rows.flatten.length ≤ 90000 ∧ R (L rows.flatten) M
abbrev N__law_joined : List Str := ["rows", "found", "row"]
def W__law_joined : WS := (wSeq (wAsg (wLst wNil) (wName 1))
  (wSeq (wFor (wiList (wVar 0)) (wName 2)
  (wAsg (wOp wPlus (wVar 1) (wVar 2)) (wName 1)))
  (wRet (wVar 1))))

theorem len__law_joined : ∀ ss M R, wf__law_joined ss M R → ss.length = 1 := by rintro ss M R ⟨n, rfl, _⟩; rfl
theorem flat_take {α : Type} (rows : List (List α)) (i : Nat) : (rows.take i).flatten.length ≤ rows.flatten.length := by
  have e := congrArg (fun x => (List.flatten x).length) (List.take_append_drop i rows)
  simp only [List.flatten_append, List.length_append] at e
  omega
theorem law__law_joined : ∀ ss M R, wf__law_joined ss M R → W__law_joined { nx := fun _ M => R (.d .non) M, rt := R } (startE N__law_joined ss) M := by
  rintro ss M R ⟨rows, rfl, hl, h⟩
  refine ⟨Nat.zero_le _, ?_⟩
  refine ⟨fun i γ M' => M' = M ∧ ∃ x, γ = [some (.d (.lst (bodiesL rows))), some (L (rows.take i).flatten), x], ⟨rfl, none, rfl⟩, ?_, ?_⟩
  · rintro i x γ M' hx ⟨rfl, y, rfl⟩
    unfold bodiesL at hx
    rw [List.getElem?_map, List.getElem?_map] at hx
    cases e : rows[i]? with
    | none => rw [e] at hx; cases hx
    | some r =>
      rw [e] at hx
      cases hx
      have e2 : (rows.take (i + 1)).flatten = (rows.take i).flatten ++ r := by rw [take_succ_get e, List.flatten_append]; simp
      have h1 := flat_take rows (i + 1)
      rw [e2, List.length_append] at h1
      refine ⟨by rw [List.length_map, List.length_map]; exact sz_le (by omega), rfl, some (.d (.lst (r.map Dt.int))), ?_⟩
      rw [e2, ← List.map_append]
      rfl
  · rintro γ M' ⟨rfl, y, rfl⟩
    unfold bodiesL
    rw [List.length_map, List.length_map, List.take_length]
    exact h
def wf__law_frames_in : WF := fun ss M R => ∃ ns : List Int, ss = [L ns] ∧ ns.length ≤ 30000 ∧ (∀ x ∈ ns, 0 ≤ x ∧ x < 256) ∧ R (.d (.tup [.lst (bodiesL (framesOf ns).1), .int (framesOf ns).2])) M
abbrev N__law_frames_in : List Str := ["octets", "bodies", "place", "turn", "told", "body", "behind", "total"]
def W__law_frames_in : WS := (wSeq (wPar 1 2 (wCons (wLst wNil) (wCons (wC (.int 0)) wNil)))
  (wSeq (wFor (wiRng1 (wCons (wOp wPlus (wCB (w1 wLen) (wCons (wVar 0) wNil)) (wC (.int 1))) wNil)) (wName 3)
  (wSeq (wAsg (wCB wf__law_number_at (wCons (wVar 0) (wCons (wVar 2) wNil))) (wName 4))
  (wSeq (wIf (wOr (wTest (wIsN (wVar 4))) (wTest (wOp (wI2 fun i j => .bl (decide (j < i))) (wOp wPlus (wOp wIx (wVar 4) (wC (.int 0))) (wC (.int 2))) (wOp (wI2 fun i j => .int (i - j)) (wCB (w1 wLen) (wCons (wVar 0) wNil)) (wOp wIx (wVar 4) (wC (.int 1)))))))
  (wRet (wTup (wCons (wVar 1) (wCons (wVar 2) wNil))))
  wNext)
  (wSeq (wPar 5 6 (wCons (wSl (wVar 0) (wPart (wOp wIx (wVar 4) (wC (.int 1)))) (wPart (wOp wPlus (wOp wIx (wVar 4) (wC (.int 1))) (wOp wIx (wVar 4) (wC (.int 0)))))) (wCons (wOp wPlus (wOp wIx (wVar 4) (wC (.int 1))) (wOp wIx (wVar 4) (wC (.int 0)))) wNil)))
  (wSeq (wAsg (wCB wf__law_sum (wCons (wVar 5) wNil)) (wName 7))
  (wSeq (wIf (wOr (wTest (wOp wNe (wOp wIx (wVar 0) (wVar 6)) (wOp (wI2c (fun _ j => 0 < j) fun i j => .int (i % j)) (wCB (w1 wIntOf) (wCons (wVar 7) wNil)) (wC (.int 256))))) (wTest (wOp wNe (wOp wIx (wVar 0) (wOp wPlus (wVar 6) (wC (.int 1)))) (wOp (wI2c CDivW fun i j => .int (i / j)) (wVar 7) (wC (.int 256))))))
  (wRet (wTup (wCons (wVar 1) (wCons (wVar 2) wNil))))
  wNext)
  (wPar 1 2 (wCons (wOp wPlus (wVar 1) (wLst (wCons (wVar 5) wNil))) (wCons (wOp wPlus (wVar 6) (wC (.int 2))) wNil)))))))))
  (wRet (wTup (wCons (wVar 1) (wCons (wVar 2) wNil))))))

theorem len__law_frames_in : ∀ ss M R, wf__law_frames_in ss M R → ss.length = 1 := by rintro ss M R ⟨n, rfl, _⟩; rfl
theorem law__law_frames_in : ∀ ss M R, wf__law_frames_in ss M R → W__law_frames_in { nx := fun _ M => R (.d .non) M, rt := R } (startE N__law_frames_in ss) M := by
  rintro ss M R ⟨ns, rfl, hl, ho, h⟩
  have hm : (ns.map Dt.int).length = ns.length := List.length_map ..
  refine ⟨Nat.zero_le _, ?_⟩
  refine ⟨by omega, by rw [hm]; omega, ?_⟩
  rw [hm]
  refine ⟨fun i γ M' => M' = M ∧ i ≤ ns.length + 1 ∧ ∃ (p : Int) (acc : List (List Int)) (x3 x4 x5 x6 x7 : Option S), γ = [some (L ns), some (.d (.lst (bodiesL acc))), some (I p), x3, x4, x5, x6, x7] ∧ 0 ≤ p ∧ p ≤ ns.length ∧ acc.length ≤ i ∧
    acc ++ (frs (ns.length + 1 - i) ns p).1 = (framesOf ns).1 ∧ (frs (ns.length + 1 - i) ns p).2 = (framesOf ns).2, ⟨rfl, by omega, 0, [], _, _, _, _, _, rfl, by decide, by omega, by decide, rfl, rfl⟩, ?_, ?_⟩
  · rintro i x γ M' hx ⟨rfl, hi1, p, acc, x3, x4, x5, x6, x7, rfl, p0, p1, hal, e1, e2⟩
    have hi : i < ns.length + 1 := by
      have := (List.getElem?_eq_some_iff.mp hx).1
      rw [List.length_map, rgD_length] at this
      omega
    obtain ⟨k, hk⟩ : ∃ k, ns.length + 1 - i = k + 1 := ⟨ns.length - i, by omega⟩
    rw [hk] at e1 e2
    refine ⟨ns, p, rfl, hl, ho, ?_⟩
    have none_ : frameAt ns p = none → R (.d (.tup [.lst (bodiesL acc), .int p])) M' := fun hf => by
      rw [frs_none hf] at e1 e2
      rw [List.append_nil] at e1
      have e2 : p = (framesOf ns).2 := e2
      rw [e1, e2]
      exact h
    cases hN : numAt ns p with
    | none => exact ⟨two_sz, none_ (by unfold frameAt; rw [hN])⟩
    | some t =>
      obtain ⟨v, e⟩ := t
      obtain ⟨b1, b2, b3, b4, b5⟩ := numAt_bounds ho hN
      have hfr : frameAt ns p = if (ns.length : Int) - e < v + 2 then none else if (ns.drop (v + e).toNat).take 2 = pairO ((ns.drop e.toNat).take v.toNat) then some ((ns.drop e.toNat).take v.toNat, v + e + 2) else none := by unfold frameAt; rw [hN]
      refine ⟨_, rfl, _, rfl, ?_⟩
      refine ifD (fun c => ?_) fun c => ?_
      · have c' : (((ns.map Dt.int).length : Nat) : Int) - e < v + 2 := c
        rw [hm] at c'
        exact ⟨two_sz, none_ (by rw [hfr, if_pos c'])⟩
      have c' : ¬ (((ns.map Dt.int).length : Nat) : Int) - e < v + 2 := c
      rw [hm] at c'
      rw [if_neg c'] at hfr
      have cut1 : cutG (ns.map Dt.int) (some e) (some (e + v)) = ((ns.drop e.toNat).take v.toNat).map Dt.int := by
        have := cutG_from (xs := ns.map Dt.int) (a := e.toNat) (b := (e + v).toNat) (by rw [List.length_map]; omega) (by rw [List.length_map]; omega) (by omega)
        rw [show ((e.toNat : Nat) : Int) = e by omega, show (((e + v).toNat : Nat) : Int) = e + v by omega] at this
        rw [this, List.map_take, List.map_drop, show (e + v).toNat - e.toNat = v.toNat by omega]
      have hbo : ∀ x ∈ (ns.drop e.toNat).take v.toNat, 0 ≤ x ∧ x < 256 := fun x hx => ho x (List.mem_of_mem_drop (List.mem_of_mem_take hx))
      have hbl : ((ns.drop e.toNat).take v.toNat).length ≤ 30000 := by rw [List.length_take, List.length_drop]; omega
      have g1 : (v + e).toNat < ns.length := by omega
      have g2 : (v + e).toNat + 1 < ns.length := by omega
      have ht : (ns.drop (v + e).toNat).take 2 = [ns[(v + e).toNat], ns[(v + e).toNat + 1]] := by
        rw [List.drop_eq_getElem_cons g1, List.drop_eq_getElem_cons g2]
        rfl
      rw [ht] at hfr
      have a1 : atI (ns.map Dt.int) (e + v) = some (.int ns[(v + e).toNat]) := by
        rw [show e + v = (((v + e).toNat : Nat) : Int) by omega]
        exact get_int (List.getElem?_eq_getElem g1)
      have a2 : atI (ns.map Dt.int) (e + v + 1) = some (.int ns[(v + e).toNat + 1]) := by
        rw [show e + v + 1 = (((v + e).toNat + 1 : Nat) : Int) by omega]
        exact get_int (List.getElem?_eq_getElem g2)
      generalize ns[(v + e).toNat] = y1 at hfr a1
      generalize ns[(v + e).toNat + 1] = y2 at hfr a2
      generalize (ns.drop e.toNat).take v.toNat = b at hfr cut1 hbo hbl
      refine ⟨_, rfl, _, rfl, _, rfl, _, rfl, _, rfl, ?_⟩
      refine ⟨b, congrArg (fun x => [S.d (.lst x)]) cut1, hbo, by omega, ?_⟩
      refine ⟨_, a1, (by show (0 : Int) < 256; decide), rfl, ?_⟩
      have pe : pairO b = [sumO 0 b % 65521 % 256, sumO 0 b % 65521 / 256] := rfl
      by_cases q1 : y1 = sumO 0 b % 65521 % 256
      · have d1 : (!eqD (.int y1) (.int (sumO 0 b % 65521 % 256))) = false := by rw [q1, eqD_int]; rfl
        show if (!eqD (.int y1) (.int (sumO 0 b % 65521 % 256))) = true then _ else _
        rw [d1]
        refine ⟨_, a2, cdiv (by decide) (by decide), rfl, ?_⟩
        by_cases q2 : y2 = sumO 0 b % 65521 / 256
        · have d2 : (!eqD (.int y2) (.int (sumO 0 b % 65521 / 256))) = false := by rw [q2, eqD_int]; rfl
          show if (!eqD (.int y2) (.int (sumO 0 b % 65521 / 256))) = true then _ else _
          rw [d2]
          rw [if_pos (by rw [pe, q1, q2])] at hfr
          have hb := frameAt_some ho hfr
          rw [frs_some hfr] at e1 e2
          refine ⟨one_sz, ?_, rfl, by omega, v + e + 2, acc ++ [b], some x, some (.d (optN (some (v, e)))), some (.d (.lst (cutG (ns.map Dt.int) (some e) (some (e + v))))), some (I (e + v)), some (I (sumO 0 b % 65521)), ?_, by omega, hb.2.2.1, by rw [List.length_append, List.length_singleton]; omega, ?_, ?_⟩
          · unfold bodiesL; rw [List.length_map, List.length_singleton]; exact sz_le (by omega)
          · show [some (L ns), some (.d (.lst (bodiesL acc ++ [.lst (cutG (ns.map Dt.int) (some e) (some (e + v)))]))), some (I (e + v + 2)), _, _, _, _, _] = _
            rw [cut1, show e + v + 2 = v + e + 2 by omega]
            unfold bodiesL
            rw [List.map_append]
            rfl
          · rw [show ns.length + 1 - (i + 1) = k by omega, List.append_assoc]; exact e1
          · rw [show ns.length + 1 - (i + 1) = k by omega]; exact e2
        · have d2 : (!eqD (.int y2) (.int (sumO 0 b % 65521 / 256))) = true := by
            show (!decide (y2 = sumO 0 b % 65521 / 256)) = true
            rw [decide_eq_false q2]; rfl
          show if (!eqD (.int y2) (.int (sumO 0 b % 65521 / 256))) = true then _ else _
          rw [d2]
          exact ⟨two_sz, none_ (by rw [hfr, if_neg]; rw [pe]; intro z; cases z; exact q2 rfl)⟩
      · have d1 : (!eqD (.int y1) (.int (sumO 0 b % 65521 % 256))) = true := by
          show (!decide (y1 = sumO 0 b % 65521 % 256)) = true
          rw [decide_eq_false q1]; rfl
        show if (!eqD (.int y1) (.int (sumO 0 b % 65521 % 256))) = true then _ else _
        rw [d1]
        exact ⟨two_sz, none_ (by rw [hfr, if_neg]; rw [pe]; intro z; cases z; exact q1 rfl)⟩
  · rintro γ M' ⟨rfl, hi1, p, acc, x3, x4, x5, x6, x7, rfl, p0, p1, hal, e1, e2⟩
    rw [List.length_map, rgD_length] at e1 e2
    rw [show ns.length + 1 - ((ns.length : Int) + 1).toNat = 0 by omega] at e1 e2
    have e1 : acc ++ [] = (framesOf ns).1 := e1
    have e2 : p = (framesOf ns).2 := e2
    rw [List.append_nil] at e1
    refine ⟨two_sz, ?_⟩
    rw [e1, e2]
    exact h

end Lw
set_option linter.all false
set_option maxRecDepth 100000
set_option maxHeartbeats 4000000
namespace Lw
open PySem L2
/-! ## frames behind one another -/
theorem readN_take : ∀ (k n : Nat) (b : Bool) (c : Nat), n ≤ k → c < (digs n).length → readN b ((digs n).take c) = none
  | k, n, b, 0, hk, hc => by rw [List.take_zero]; rfl
  | k, n, b, c + 1, hk, hc => by
    by_cases hn : n < 128
    · rw [digs_lt hn] at hc; simp at hc
    · rw [digs_ge hn] at hc ⊢
      rw [List.take_succ_cons, readN, if_neg (by omega)]
      cases k with
      | zero => omega
      | succ k =>
        rw [readN_take k (n / 128) false c (by omega) (by rw [List.length_cons] at hc; omega)]
theorem numAt_pre (pre xs : List Int) : numAt (pre ++ xs) ((pre.length : Nat) : Int) = match readN true xs with | none => none | some (v, l) => some (v, ((pre.length : Nat) : Int) + l) := by
  unfold numAt
  rw [if_neg (by omega), Int.toNat_natCast, List.drop_left]
  all_goals (cases readN true xs <;> rfl)
theorem frm_length (b : List Int) : (frm b).length = (digs b.length).length + b.length + 2 := by unfold frm pairO; simp; omega
theorem frameAt_step (pre b rest : List Int) : frameAt (pre ++ (frm b ++ rest)) ((pre.length : Nat) : Int) = some (b, (((pre ++ frm b).length : Nat) : Int)) := by
  have e0 : frm b ++ rest = digs b.length ++ (b ++ (pairO b ++ rest)) := by unfold frm; simp only [List.append_assoc]
  have hp : (pairO b).length = 2 := rfl
  unfold frameAt
  rw [e0, numAt_pre, readN_digs _ _ true _ (Nat.le_refl _) (.inl rfl)]
  show (if _ then _ else _) = _
  rw [if_neg (by simp only [List.length_append, hp]; omega)]
  have e1 : (((pre.length : Nat) : Int) + ((digs b.length).length : Nat)).toNat = (pre ++ digs b.length).length := by rw [List.length_append]; omega
  have e2 : ((b.length : Int) + (((pre.length : Nat) : Int) + ((digs b.length).length : Nat))).toNat = (pre ++ digs b.length ++ b).length := by rw [List.length_append, List.length_append]; omega
  rw [e1, e2, Int.toNat_natCast]
  have d1 : (pre ++ (digs b.length ++ (b ++ (pairO b ++ rest)))).drop (pre ++ digs b.length).length = b ++ (pairO b ++ rest) := by rw [← List.append_assoc, List.drop_left]
  have d2 : (pre ++ (digs b.length ++ (b ++ (pairO b ++ rest)))).drop (pre ++ digs b.length ++ b).length = pairO b ++ rest := by rw [← List.append_assoc, ← List.append_assoc, List.drop_left]
  rw [d1, d2, List.take_left]
  have d3 : (pairO b ++ rest).take 2 = pairO b := by rw [← hp, List.take_left]
  rw [d3, if_pos rfl]
  have : (b.length : Int) + (((pre.length : Nat) : Int) + ((digs b.length).length : Nat)) + 2 = (((pre ++ frm b).length : Nat) : Int) := by rw [List.length_append, frm_length]; omega
  rw [this]
def fl (bs : List (List Int)) : List Int := (bs.map frm).flatten
theorem fl_cons (b : List Int) (r) : fl (b :: r) = frm b ++ fl r := rfl
theorem fl_append (a b : List (List Int)) : fl (a ++ b) = fl a ++ fl b := by unfold fl; rw [List.map_append, List.flatten_append]
theorem fl_len : ∀ bs : List (List Int), bs.length ≤ (fl bs).length
  | [] => Nat.le_refl _
  | b :: r => by rw [fl_cons, List.length_append, frm_length, List.length_cons]; have := fl_len r; omega
theorem frs_join (tail : List Int) (hno : ∀ pre : List Int, frameAt (pre ++ tail) ((pre.length : Nat) : Int) = none) : ∀ (bs : List (List Int)) (k : Nat) (pre : List Int), bs.length < k → frs k (pre ++ (fl bs ++ tail)) ((pre.length : Nat) : Int) = (bs, (((pre ++ fl bs).length : Nat) : Int))
  | [], k, pre, hk => by
    have e : fl [] = [] := rfl
    rw [e, List.nil_append, List.append_nil, frs_none (hno pre)]
  | b :: r, k, pre, hk => by
    obtain ⟨k, rfl⟩ : ∃ k', k = k' + 1 := ⟨k - 1, by rw [List.length_cons] at hk; omega⟩
    rw [fl_cons, List.append_assoc, frs_some (frameAt_step pre b _)]
    have ih := frs_join tail hno r k (pre ++ frm b) (by rw [List.length_cons] at hk; omega)
    rw [← List.append_assoc, ih]
    show (b :: r, _) = (b :: r, _)
    rw [List.append_assoc]
theorem framesOf_join {tail : List Int} (hno : ∀ pre : List Int, frameAt (pre ++ tail) ((pre.length : Nat) : Int) = none) (bs : List (List Int)) : framesOf (fl bs ++ tail) = (bs, (((fl bs).length : Nat) : Int)) := by
  have h := frs_join tail hno bs ((fl bs ++ tail).length + 1) [] (by have := fl_len bs; rw [List.length_append]; omega)
  exact h
theorem no_nil (pre : List Int) : frameAt (pre ++ []) ((pre.length : Nat) : Int) = none := by unfold frameAt; rw [numAt_pre]; rfl
theorem no_zz (pre : List Int) : frameAt (pre ++ [0, 0]) ((pre.length : Nat) : Int) = none := by
  unfold frameAt
  rw [numAt_pre]
  show (if (((pre ++ [0, 0]).length : Nat) : Int) - (((pre.length : Nat) : Int) + ((1 : Nat) : Int)) < 0 + 2 then none else _) = none
  rw [if_pos (by rw [List.length_append]; simp; omega)]
theorem no_cut {b : List Int} {c : Nat} (hc : c < (frm b).length) (pre : List Int) : frameAt (pre ++ (frm b).take c) ((pre.length : Nat) : Int) = none := by
  rw [frm_length] at hc
  have e0 : frm b = digs b.length ++ (b ++ pairO b) := by unfold frm; rw [List.append_assoc]
  unfold frameAt
  rw [numAt_pre, e0]
  by_cases h : c < (digs b.length).length
  · rw [List.take_append_of_le_length (by omega), readN_take _ _ true c (Nat.le_refl _) h]
  · rw [List.take_append, List.take_of_length_le (by omega), readN_digs _ _ true _ (Nat.le_refl _) (.inl rfl)]
    show (if _ then none else _) = none
    rw [if_pos]
    rw [List.length_append, List.length_append, List.length_take]
    omega
theorem framesOf_fl (bs : List (List Int)) : framesOf (fl bs) = (bs, (((fl bs).length : Nat) : Int)) := by
  have := framesOf_join no_nil bs
  rw [List.append_nil] at this
  exact this
theorem pair_oct (b : List Int) : ∀ x ∈ pairO b, 0 ≤ x ∧ x < 256 := by
  intro x hx
  have h0 : 0 ≤ sumO 0 b % 65521 := Int.emod_nonneg _ (by decide)
  have h1 : sumO 0 b % 65521 < 65521 := Int.emod_lt_of_pos _ (by decide)
  unfold pairO at hx
  simp only [List.mem_cons, List.not_mem_nil, or_false] at hx
  rcases hx with rfl | rfl <;> omega
theorem oct_app' {xs ys : List Int} (h : ∀ x ∈ xs, 0 ≤ x ∧ x < 256) (g : ∀ x ∈ ys, 0 ≤ x ∧ x < 256) : ∀ x ∈ xs ++ ys, 0 ≤ x ∧ x < 256 := fun x hx => (List.mem_append.mp hx).elim (h x) (g x)
theorem frm_oct {b : List Int} (h : ∀ x ∈ b, 0 ≤ x ∧ x < 256) : ∀ x ∈ frm b, 0 ≤ x ∧ x < 256 := oct_app' (oct_app' (digs_oct _ _ (Nat.le_refl _)) h) (pair_oct b)
theorem fl_oct : ∀ {bs : List (List Int)}, (∀ b ∈ bs, ∀ x ∈ b, 0 ≤ x ∧ x < 256) → ∀ x ∈ fl bs, 0 ≤ x ∧ x < 256
  | [], _ => by intro x hx; cases hx
  | b :: r, h => by rw [fl_cons]; exact oct_app' (frm_oct (h b List.mem_cons_self)) (fl_oct fun c hc => h c (List.mem_cons_of_mem _ hc))
theorem fl_size : ∀ {bs : List (List Int)}, (∀ b ∈ bs, b.length ≤ 300) → (fl bs).length ≤ 305 * bs.length
  | [], _ => Nat.zero_le _
  | b :: r, h => by
    have h1 := h b List.mem_cons_self
    have h2 := fl_size (bs := r) fun c hc => h c (List.mem_cons_of_mem _ hc)
    have h3 := digs3 (n := b.length) (by omega)
    rw [fl_cons, List.length_append, frm_length, List.length_cons]
    omega
/-! rows of one octet -/
def tri : Nat → Nat → Nat | _, 0 => 0 | k, n + 1 => (k + 1) + tri (k + 1) n
theorem tri_eq : ∀ n k, 2 * tri k n = n * (2 * k + n + 1)
  | 0, k => by simp [tri]
  | n + 1, k => by
    have ih := tri_eq n (k + 1)
    have e1 : n * (2 * (k + 1) + n + 1) = n * (2 * k + n + 2) + n := by
      rw [show 2 * (k + 1) + n + 1 = (2 * k + n + 2) + 1 by omega, Nat.mul_add, Nat.mul_one]
    have e2 : (n + 1) * (2 * k + (n + 1) + 1) = n * (2 * k + n + 2) + (2 * k + n + 2) := by
      rw [show 2 * k + (n + 1) + 1 = 2 * k + n + 2 by omega, Nat.add_mul, Nat.one_mul]
    rw [tri, e2]
    rw [e1] at ih
    omega
theorem sum_rep (c : Int) : ∀ n k, sumO k (List.replicate n c) = c * (tri k n : Int)
  | 0, k => by simp [sumO, tri]
  | n + 1, k => by
    rw [List.replicate_succ, sumO, sum_rep c n (k + 1), tri, Int.natCast_add, Int.mul_add, Int.mul_comm c ((k + 1 : Nat) : Int)]
    rfl
theorem tri_div (n : Nat) : ((n : Int) * ((n : Int) + 1)) / 2 = (tri 0 n : Int) := by
  have h := tri_eq n 0
  rw [show 2 * 0 + n + 1 = n + 1 by omega] at h
  have e : (n : Int) * ((n : Int) + 1) = ((n * (n + 1) : Nat) : Int) := by rw [Int.natCast_mul]; rfl
  rw [e]
  generalize n * (n + 1) = y at h ⊢
  omega
theorem rep_C (n : Nat) (c : Int) : (List.replicate n [Dt.int c]).flatten = (List.replicate n c).map Dt.int := by
  induction n with
  | zero => rfl
  | succ n ih => rw [List.replicate_succ, List.flatten_cons, ih, List.replicate_succ]; rfl
def wf__law_some_body : WF := fun ss M R => ∃ da ca : Addr, ss = [.a da] ∧ Deal M da ca ∧ ∀ (b : List Int) M', b.length ≤ 300 → (∀ x ∈ b, 0 ≤ x ∧ x < 256) → Deal M' da ca → Off da ca M M' → R (L b) M'
abbrev N__law_some_body : List Str := ["deal", "many", "one", "step", "turn"]
def W__law_some_body : WS := (wSeq (wAsg (wCB wf__law_of (wCons (wVar 0) (wCons (wLst (wCons (wC (.int 0)) (wCons (wC (.int 1)) (wCons (wC (.int 2)) (wCons (wC (.int 5)) (wCons (wC (.int 20)) (wCons (wC (.int 126)) (wCons (wC (.int 127)) (wCons (wC (.int 128)) (wCons (wC (.int 129)) (wCons (wC (.int 300)) wNil))))))))))) wNil))) (wName 1))
  (wSeq (wIf (wTest (wOp (wI2 fun i j => .bl (decide (j < i))) (wVar 1) (wC (.int 30))))
  (wSeq (wAsg (wTup (wCons (wCB wf__law_octet (wCons (wVar 0) wNil)) (wCons (wCB wf__law_of (wCons (wVar 0) (wCons (wLst (wCons (wC (.int 0)) (wCons (wC (.int 1)) (wCons (wC (.int 7)) (wCons (wC (.int 128)) wNil))))) wNil))) wNil))) (wgTup 2 (wgCons (wName 2) (wgCons (wName 3) wgNil))))
  (wRet (wLcD (wiRng1 (wCons (wVar 1) wNil)) (wName 4) wYes (wOp (wI2c (fun _ j => 0 < j) fun i j => .int (i % j)) (wCB (w1 wIntOf) (wCons (wOp wPlus (wVar 2) (wOp wMul (wVar 4) (wVar 3))) wNil)) (wC (.int 256))) [4])))
  wNext)
  (wRet (wLcD (wiRng1 (wCons (wVar 1) wNil)) (wName 4) wYes (wCB wf__law_octet (wCons (wVar 0) wNil)) [4]))))

theorem len__law_some_body : ∀ ss M R, wf__law_some_body ss M R → ss.length = 1 := by rintro ss M R ⟨_, _, rfl, _⟩; rfl
theorem law__law_some_body : ∀ ss M R, wf__law_some_body ss M R → W__law_some_body { nx := fun _ M => R (.d .non) M, rt := R } (startE N__law_some_body ss) M := by
  rintro ss M R ⟨da, ca, rfl, D, k⟩
  refine ⟨sz_le (by simp), ?_⟩
  refine ⟨da, ca, _, _, rfl, .inl rfl, by simp, by simp, D, fun d M1 hd D1 o1 => ?_⟩
  have : ∃ n : Int, d = .int n ∧ 0 ≤ n ∧ n ≤ 300 := by
    simp only [List.mem_cons, List.not_mem_nil, or_false] at hd
    rcases hd with rfl | rfl | rfl | rfl | rfl | rfl | rfl | rfl | rfl | rfl <;> exact ⟨_, rfl, by decide, by decide⟩
  obtain ⟨n, rfl, n0, n1⟩ := this
  have fin : ∀ (ys : List Dt) (M2 : Sto), ys.length = ((rgD 0 n.toNat 1).map S.d).length → (∀ y ∈ ys, ∃ v : Int, y = .int v ∧ 0 ≤ v ∧ v < 256) → Deal M2 da ca → Off da ca M M2 → R (.d (.lst ys)) M2 := by
    intro ys M2 hl hP D2 o2
    obtain ⟨ns, rfl, hn⟩ := ints_of hP
    rw [List.length_map, List.length_map, rgD_length] at hl
    exact k ns M2 (by omega) hn D2 o2
  refine ifD (fun _ => ?_) fun _ => ?_
  · refine ⟨da, ca, rfl, D1, fun one M2 p0 p1 D2 o2 => ?_⟩
    refine ⟨sz_le (by simp), ?_⟩
    refine ⟨da, ca, _, _, rfl, .inl rfl, by simp, by simp, D2, fun d M3 hd D3 o3 => ?_⟩
    have : ∃ st : Int, d = .int st ∧ 0 ≤ st ∧ st ≤ 128 := by
      simp only [List.mem_cons, List.not_mem_nil, or_false] at hd
      rcases hd with rfl | rfl | rfl | rfl <;> exact ⟨_, rfl, by decide, by decide⟩
    obtain ⟨st, rfl, s0, s1⟩ := this
    refine ⟨two_sz, rfl, ?_⟩
    refine ⟨by omega, by omega, ?_⟩
    refine (lcB_draw (wi := fun _ M R => R ((rgD 0 n.toNat 1).map S.d) M) (γ := [some (.a da), some (I n), some (I one), some (I st), none]) (j := 4) (we := wOp (wI2c (fun _ j => 0 < j) fun i j => .int (i % j)) (wCB (w1 wIntOf) (wCons (wOp wPlus (wVar 2) (wOp wMul (wVar 4) (wVar 3))) wNil)) (wC (.int 256))) (M := M3) (P := fun y => ∃ v : Int, y = .int v ∧ 0 ≤ v ∧ v < 256) (Rf := _) D3 (fun R r => r) ?_ ?_ ?_).go
    · rw [List.length_map, rgD_length]; exact sz_lt (by omega)
    · intro y M5 R5 hy D5 k5
      obtain ⟨j, hj⟩ := List.mem_iff_getElem?.mp hy
      have hj2 : j < n.toNat := by
        have := (List.getElem?_eq_some_iff.mp hj).1
        rw [List.length_map, rgD_length] at this
        exact this
      rw [List.getElem?_map, rgD_get hj2] at hj
      cases hj
      refine ⟨cmulS (by omega) (by omega), ?_⟩
      exact ⟨(by show (0 : Int) < 256; decide), k5 _ _ ⟨_, rfl, Int.emod_nonneg _ (by decide), Int.emod_lt_of_pos _ (by decide)⟩ D5 Off.refl⟩
    · intro ys M5 hl hP D5 o5
      exact fin ys M5 hl hP D5 (((o1.trans o2).trans o3).trans o5)
  · refine ⟨⟨by omega, by omega, ?_⟩⟩
    refine (lcB_draw (wi := fun _ M R => R ((rgD 0 n.toNat 1).map S.d) M) (γ := [some (.a da), some (I n), none, none, none]) (j := 4) (we := wCB wf__law_octet (wCons (wVar 0) wNil)) (M := M1) (P := fun y => ∃ v : Int, y = .int v ∧ 0 ≤ v ∧ v < 256) (Rf := _) D1 (fun R r => r) ?_ ?_ ?_).go
    · rw [List.length_map, rgD_length]; exact sz_lt (by omega)
    · intro y M2 R2 _ D2 k2
      exact ⟨da, ca, rfl, D2, fun x M' h0 h1 D' o' => k2 _ _ ⟨x, rfl, h0, h1⟩ D' o'⟩
    · intro ys M5 hl hP D5 o5
      exact fin ys M5 hl hP D5 (o1.trans o5)
def wf__law_bent : WF := fun ss M R => ∃ (da ca : Addr) (ns : List Int), ss = [.a da, L ns] ∧ ns.length ≤ 20000 ∧ (∀ x ∈ ns, 0 ≤ x ∧ x < 256) ∧ Deal M da ca ∧ ∀ (b : List Int) M', b.length ≤ 20001 → (∀ x ∈ b, 0 ≤ x ∧ x < 256) → Deal M' da ca → Off da ca M M' → R (L b) M'
abbrev N__law_bent : List Str := ["deal", "octets", "at", "sort"]
def W__law_bent : WS := (wSeq (wIf (wTest (wOp wEq (wCB (w1 wLen) (wCons (wVar 1) wNil)) (wC (.int 0))))
  (wRet (wVar 1))
  wNext)
  (wSeq (wPar 2 3 (wCons (wCB wf__law_any (wCons (wVar 0) (wCons (wCB (w1 wLen) (wCons (wVar 1) wNil)) wNil))) (wCons (wCB wf__law_any (wCons (wVar 0) (wCons (wC (.int 4)) wNil))) wNil)))
  (wSeq (wIf (wTest (wOp wEq (wVar 3) (wC (.int 0))))
  (wRet (wOp wPlus (wSl (wVar 1) wNoP (wPart (wVar 2))) (wSl (wVar 1) (wPart (wOp wPlus (wVar 2) (wC (.int 1)))) wNoP)))
  wNext)
  (wSeq (wIf (wTest (wOp wEq (wVar 3) (wC (.int 1))))
  (wRet (wOp wPlus (wOp wPlus (wSl (wVar 1) wNoP (wPart (wVar 2))) (wLst (wCons (wCB wf__law_octet (wCons (wVar 0) wNil)) wNil))) (wSl (wVar 1) (wPart (wVar 2)) wNoP)))
  wNext)
  (wRet (wOp wPlus (wOp wPlus (wSl (wVar 1) wNoP (wPart (wVar 2))) (wLst (wCons (wOp (wI2c (fun _ j => 0 < j) fun i j => .int (i % j)) (wCB (w1 wIntOf) (wCons (wOp wPlus (wOp wIx (wVar 1) (wVar 2)) (wCB wf__law_of (wCons (wVar 0) (wCons (wLst (wCons (wC (.int 1)) (wCons (wC (.int 128)) (wCons (wC (.int 255)) (wCons (wOp wPlus (wC (.int 1)) (wCB wf__law_any (wCons (wVar 0) (wCons (wC (.int 255)) wNil)))) wNil))))) wNil)))) wNil)) (wC (.int 256))) wNil))) (wSl (wVar 1) (wPart (wOp wPlus (wVar 2) (wC (.int 1)))) wNoP)))))))

theorem len__law_bent : ∀ ss M R, wf__law_bent ss M R → ss.length = 2 := by rintro ss M R ⟨_, _, _, rfl, _⟩; rfl
theorem cut_to {ns : List Int} {a : Int} (h0 : 0 ≤ a) (h1 : a ≤ ns.length) : cutG ns none (some a) = ns.take a.toNat := by
  have := HT.sIx_nat ns.length ns.length a.toNat
  rw [show ((a.toNat : Nat) : Int) = a by omega, Nat.min_eq_left (by omega)] at this
  unfold cutG
  rw [this]
  rfl
theorem cut_from {ns : List Int} {a : Int} (h0 : 0 ≤ a) (h1 : a ≤ ns.length) : cutG ns (some a) none = ns.drop a.toNat := by
  have := HT.sIx_nat ns.length 0 a.toNat
  rw [show ((a.toNat : Nat) : Int) = a by omega, Nat.min_eq_left (by omega)] at this
  unfold cutG
  rw [this]
  show (ns.drop a.toNat).take (ns.length - a.toNat) = _
  rw [List.take_of_length_le (by rw [List.length_drop]; omega)]
theorem law__law_bent : ∀ ss M R, wf__law_bent ss M R → W__law_bent { nx := fun _ M => R (.d .non) M, rt := R } (startE N__law_bent ss) M := by
  rintro ss M R ⟨da, ca, ns, rfl, hl, ho, D, k⟩
  have hm : (ns.map Dt.int).length = ns.length := List.length_map ..
  refine ⟨rfl, ?_⟩
  refine ifD (c := (((ns.map Dt.int).length : Nat) : Int) = 0) (fun _ => k ns M (by omega) ho D Off.refl) fun hne => ?_
  rw [hm] at hne
  refine ⟨da, ca, _, rfl, by rw [hm]; omega, by rw [hm]; omega, D, fun a M1 a0 a1 D1 o1 => ?_⟩
  rw [hm] at a1
  refine ⟨da, ca, 4, rfl, by decide, by decide, D1, fun q M2 q0 q1 D2 o2 => ?_⟩
  have o12 := o1.trans o2
  have c1 : cutG (ns.map Dt.int) none (some a) = (ns.take a.toNat).map Dt.int := by rw [cutG_map, cut_to a0 (by omega)]
  have c2 : cutG (ns.map Dt.int) (some (a + 1)) none = (ns.drop (a + 1).toNat).map Dt.int := by rw [cutG_map, cut_from (by omega) (by omega)]
  have c3 : cutG (ns.map Dt.int) (some a) none = (ns.drop a.toNat).map Dt.int := by rw [cutG_map, cut_from a0 (by omega)]
  have ot : ∀ n, ∀ x ∈ ns.take n, 0 ≤ x ∧ x < 256 := fun n x hx => ho x (List.mem_of_mem_take hx)
  have od : ∀ n, ∀ x ∈ ns.drop n, 0 ≤ x ∧ x < 256 := fun n x hx => ho x (List.mem_of_mem_drop hx)
  have lt : ∀ n, (ns.take n).length ≤ ns.length := fun n => by rw [List.length_take]; omega
  have ld : ∀ n, (ns.drop n).length ≤ ns.length := fun n => by rw [List.length_drop]; omega
  refine ⟨rfl, ?_⟩
  refine ifD (c := q = 0) (fun _ => ?_) fun _ => ?_
  · have l1 := lt a.toNat
    have l2 := ld (a + 1).toNat
    refine ⟨?_, ?_⟩
    · rw [c1, c2, List.length_map, List.length_map]; exact sz_le (by omega)
    · rw [c1, c2, ← List.map_append]
      exact k _ M2 (by rw [List.length_append, List.length_take, List.length_drop]; omega) (oct_app' (ot _) (od _)) D2 o12
  refine ⟨rfl, ?_⟩
  refine ifD (c := q = 1) (fun _ => ?_) fun _ => ?_
  · refine ⟨da, ca, rfl, D2, fun y M3 y0 y1 D3 o3 => ?_⟩
    have l1 := lt a.toNat
    have l2 := ld a.toNat
    refine ⟨one_sz, ?_, ?_, ?_⟩
    · rw [c1, List.length_map]; exact sz_le (by rw [List.length_singleton]; omega)
    · rw [c1, c3, List.length_append, List.length_map, List.length_map]; exact sz_le (by rw [List.length_singleton]; omega)
    · have e : (cutG (ns.map Dt.int) none (some a) ++ [Dt.int y]) ++ cutG (ns.map Dt.int) (some a) none = (ns.take a.toNat ++ [y] ++ ns.drop a.toNat).map Dt.int := by rw [c1, c3]; simp
      rw [e]
      exact k _ M3 (by rw [List.length_append, List.length_append, List.length_take, List.length_drop, List.length_singleton]; omega) (oct_app' (oct_app' (ot _) (by intro x hx; rw [List.mem_singleton] at hx; omega)) (od _)) D3 (o12.trans o3)
  · obtain ⟨i, rfl⟩ := Int.eq_ofNat_of_zero_le a0
    have hi : i < ns.length := by omega
    have g := List.getElem?_eq_getElem hi
    refine ⟨_, get_int g, ?_⟩
    refine ⟨da, ca, 255, rfl, by decide, by decide, D2, fun y M3 y0 y1 D3 o3 => ?_⟩
    refine ⟨sz_le (by simp), ?_⟩
    refine ⟨da, ca, _, _, rfl, .inl rfl, by simp, by simp, D3, fun d M4 hd D4 o4 => ?_⟩
    have : ∃ v : Int, d = .int v := by
      simp only [List.mem_cons, List.not_mem_nil, or_false] at hd
      rcases hd with rfl | rfl | rfl | rfl <;> exact ⟨_, rfl⟩
    obtain ⟨v, rfl⟩ := this
    have l1 := lt i
    have l2 := ld (i + 1)
    have w0 : 0 ≤ (ns[i] + v) % 256 := Int.emod_nonneg _ (by decide)
    have w1 : (ns[i] + v) % 256 < 256 := Int.emod_lt_of_pos _ (by decide)
    refine ⟨(by show (0 : Int) < 256; decide), one_sz, ?_, ?_, ?_⟩
    · rw [c1, List.length_map]; exact sz_le (by rw [List.length_singleton]; show (ns.take i).length + 1 ≤ _; omega)
    · rw [c1, c2, List.length_append, List.length_map, List.length_map]; exact sz_le (by rw [List.length_singleton]; show (ns.take i).length + 1 + (ns.drop (i + 1)).length ≤ _; omega)
    · have e : (cutG (ns.map Dt.int) none (some (i : Int)) ++ [Dt.int ((ns[i] + v) % 256)]) ++ cutG (ns.map Dt.int) (some ((i : Int) + 1)) none = (ns.take i ++ [(ns[i] + v) % 256] ++ ns.drop (i + 1)).map Dt.int := by
        rw [c1, c2]
        have e1 : ((i : Int)).toNat = i := rfl
        have e2 : ((i : Int) + 1).toNat = i + 1 := by omega
        rw [e1, e2]
        simp
      rw [e]
      exact k _ M4 (by rw [List.length_append, List.length_append, List.length_take, List.length_drop, List.length_singleton]; omega) (oct_app' (oct_app' (ot _) (by intro x hx; rw [List.mem_singleton] at hx; omega)) (od _)) D4 ((o12.trans o3).trans o4)
def wf__law_due : WF := fun ss M R => ∃ ns : List Int, ss = [L ns] ∧ ns.length ≤ 30000 ∧ (∀ x ∈ ns, 0 ≤ x ∧ x < 256) ∧ R (.d (frD (framesOf ns))) M
abbrev N__law_due : List Str := ["octets", "bodies", "place", "body"]
def W__law_due : WS := (wSeq (wAsg (wCB wf__law_frames_in (wCons (wVar 0) wNil)) (wgTup 2 (wgCons (wName 1) (wgCons (wName 2) wgNil))))
  (wRet (wTup (wCons (wCB (w1 wTupOf) (wCons (wLcD (wiList (wVar 1)) (wName 3) wYes (wCB (w1 wTupOf) (wCons (wVar 3) wNil)) [3]) wNil)) (wCons (wVar 2) wNil)))))

theorem len__law_due : ∀ ss M R, wf__law_due ss M R → ss.length = 1 := by rintro ss M R ⟨n, rfl, _⟩; rfl
theorem bodies_count {ns : List Int} (hl : ns.length ≤ 30000) (ho : ∀ x ∈ ns, 0 ≤ x ∧ x < 256) : ((framesOf ns).1.map fun b => b.length + 3).sum ≤ 30000 := by
  have := frs_bound ho (ns.length + 1) 0 (by decide) (by omega)
  unfold framesOf
  omega
theorem sum3_len : ∀ bs : List (List Int), bs.length ≤ (bs.map fun b => b.length + 3).sum
  | [] => Nat.le_refl _
  | b :: r => by rw [List.map_cons, List.sum_cons, List.length_cons]; have := sum3_len r; omega
theorem law__law_due : ∀ ss M R, wf__law_due ss M R → W__law_due { nx := fun _ M => R (.d .non) M, rt := R } (startE N__law_due ss) M := by
  rintro ss M R ⟨ns, rfl, hl, ho, h⟩
  have hb := bodies_count hl ho
  have hb2 := sum3_len (framesOf ns).1
  refine ⟨ns, rfl, hl, ho, ?_⟩
  refine ⟨rfl, ?_⟩
  refine lcB_map (xs := (bodiesL (framesOf ns).1).map S.d) (bodiesT (framesOf ns).1) (fun R r => r) ?_ ?_ ?_ ?_
  · unfold bodiesL; rw [List.length_map, List.length_map]; exact sz_lt (by omega)
  · unfold bodiesL bodiesT; simp
  · intro i x y hx hy M R r
    unfold bodiesL at hx
    unfold bodiesT at hy
    rw [List.getElem?_map, List.getElem?_map] at hx
    rw [List.getElem?_map] at hy
    cases e : (framesOf ns).1[i]? with
    | none => rw [e] at hx; cases hx
    | some b => rw [e] at hx hy; cases hx; cases hy; exact r
  · exact ⟨two_sz, h⟩

end Lw
set_option linter.all false
set_option maxRecDepth 100000
set_option maxHeartbeats 4000000
namespace Lw
open PySem L2
/-! ## the law -/
theorem plL_ints : ∀ ns : List Int, plL (ns.map Dt.int) = true
  | [] => rfl
  | n :: r => by rw [List.map_cons, plL, plL_ints r]; rfl
theorem szL_ints : ∀ ns : List Int, szL (ns.map Dt.int) = ns.length
  | [] => rfl
  | n :: r => by rw [List.map_cons, szL, szL_ints r, List.length_cons, szD]; omega; all_goals (intro x h; cases h)
theorem pln_T {ns : List Int} (h : ns.length ≤ 90000) : Pln (.tup (ns.map Dt.int)) := ⟨by rw [plD]; exact plL_ints ns, by rw [szD, szL_ints]; omega⟩
theorem szD_int (i : Int) : szD (.int i) = 1 := by
  rw [szD]
  intro x h; cases h
theorem plL_bodies : ∀ bs : List (List Int), plL (bodiesT bs) = true
  | [] => rfl
  | b :: r => by
    show plL (Dt.tup (b.map Dt.int) :: bodiesT r) = true
    rw [plL, plD, plL_ints, plL_bodies r]; rfl
theorem szL_bodies : ∀ bs : List (List Int), szL (bodiesT bs) ≤ (bs.map fun b => b.length + 3).sum
  | [] => Nat.le_refl _
  | b :: r => by
    show szL (Dt.tup (b.map Dt.int) :: bodiesT r) ≤ _
    rw [szL, szD, szL_ints, List.map_cons, List.sum_cons]
    have := szL_bodies r
    omega
theorem pln_frD {bs : List (List Int)} {p : Int} (h : (bs.map fun b => b.length + 3).sum ≤ 90000) : Pln (frD (bs, p)) := by
  have hs := szL_bodies bs
  unfold frD
  refine ⟨?_, ?_⟩
  · rw [plD, plL, plD, plL_bodies]; rfl
  · rw [szD, szL, szL, szL, szD, szD_int]; show 1 + (1 + szL (bodiesT bs) + (1 + 0)) ≤ _; omega
theorem pln_frs {ns : List Int} (hl : ns.length ≤ 30000) (ho : ∀ x ∈ ns, 0 ≤ x ∧ x < 256) : Pln (frD (framesOf ns)) := pln_frD (bs := (framesOf ns).1) (p := (framesOf ns).2) (by have := bodies_count hl ho; omega)
theorem sum3_300 : ∀ {bs : List (List Int)}, (∀ b ∈ bs, b.length ≤ 300) → (bs.map fun b => b.length + 3).sum ≤ 303 * bs.length
  | [], _ => Nat.le_refl _
  | b :: r, h => by
    have := sum3_300 (bs := r) fun c hc => h c (List.mem_cons_of_mem _ hc)
    have h1 := h b List.mem_cons_self
    rw [List.map_cons, List.sum_cons, List.length_cons]
    omega
/-- what the law keeps: the deal, the pairs at pp, all else as before -/
structure LI (M M' : Sto) (da ca pp : Addr) (n : Nat) : Prop where
  D : Deal M' da ca
  hp : ∃ ps : List Dt, M' pp = some (.lst (ps.map fun d => S.d (dup d))) ∧ (∀ d ∈ ps, Pln d) ∧ ps.length ≤ n
  nd : pp ≠ da
  nc : pp ≠ ca
  d0 : M da = none
  c0 : M ca = none
  p0 : M pp = none
  ex : ∀ q o, M q = some o → M' q = some o
section
variable {M M' M2 : Sto} {da ca pp rr : Addr} {n : Nat}
theorem LI.draw (h : LI M M' da ca pp n) (D : Deal M2 da ca) (o : Off da ca M' M2) : LI M M2 da ca pp n :=
  ⟨D, by obtain ⟨ps, h1, h2⟩ := h.hp; exact ⟨ps, by rw [o pp h.nd h.nc]; exact h1, h2⟩, h.nd, h.nc, h.d0, h.c0, h.p0, fun q u e => by
    rw [o q (fun z => by rw [z, h.d0] at e; cases e) (fun z => by rw [z, h.c0] at e; cases e)]
    exact h.ex q u e⟩
theorem LI.app {ps : List Dt} {d : Dt} (h : LI M M' da ca pp n) (hm : M' pp = some (.lst (ps.map fun d => S.d (dup d)))) (hd : Pln d) : LI M (put M' pp (.lst ((ps.map fun d => S.d (dup d)) ++ [S.d (.tup [d, d])]))) da ca pp (n + 1) :=
  ⟨h.D.put h.nd h.nc, by
    obtain ⟨qs, h1, h2, h3⟩ := h.hp
    have e : ps.map (fun d => S.d (dup d)) = qs.map fun d => S.d (dup d) := by rw [h1] at hm; have := Option.some.inj hm; injection this with this; exact this.symm
    refine ⟨qs ++ [d], ?_, ?_, ?_⟩
    · rw [put_same, dup_map, e]; rfl
    · intro x hx
      rcases List.mem_append.mp hx with hx | hx
      · exact h2 x hx
      · rw [List.mem_singleton] at hx; subst hx; exact hd
    · rw [List.length_append, List.length_singleton]; omega, h.nd, h.nc, h.d0, h.c0, h.p0, fun q u e => by
    rw [put_ne (fun z => by rw [z, h.p0] at e; cases e)]
    exact h.ex q u e⟩
theorem LI.mono {m : Nat} (h : LI M M' da ca pp n) (hm : n ≤ m) : LI M M' da ca pp m := ⟨h.D, by obtain ⟨ps, h1, h2, h3⟩ := h.hp; exact ⟨ps, h1, h2, by omega⟩, h.nd, h.nc, h.d0, h.c0, h.p0, h.ex⟩
theorem LI.putO {o : MO} (h : LI M M' da ca pp n) (h1 : rr ≠ da) (h2 : rr ≠ ca) (h3 : rr ≠ pp) (h0 : M rr = none) : LI M (put M' rr o) da ca pp n :=
  ⟨h.D.put h1 h2, by obtain ⟨ps, g1, g2⟩ := h.hp; exact ⟨ps, by rw [put_ne h3.symm]; exact g1, g2⟩, h.nd, h.nc, h.d0, h.c0, h.p0, fun q u e => by
    rw [put_ne (fun z => by rw [z, h0] at e; cases e)]
    exact h.ex q u e⟩
theorem LI.delO (h : LI M M' da ca pp n) (h1 : rr ≠ da) (h2 : rr ≠ ca) (h3 : rr ≠ pp) (h0 : M rr = none) : LI M (del M' rr) da ca pp n :=
  ⟨h.D.del h1 h2, by obtain ⟨ps, g1, g2⟩ := h.hp; exact ⟨ps, by rw [del_ne h3.symm]; exact g1, g2⟩, h.nd, h.nc, h.d0, h.c0, h.p0, fun q u e => by
    rw [del_ne (fun z => by rw [z, h0] at e; cases e)]
    exact h.ex q u e⟩
end
theorem ifS {b : Bool} {A : Prop} (a : A) : if b = true then A else A := by cases b <;> exact a
def rowD (b : List Int) : Dt := .tup [.lst (b.map Dt.int), .lst ((frm b).map Dt.int)]
theorem lcB_map2 {wi : WI} {wg : WG} {we : WE} {vs : List Nat} {γ : En} {M : Sto} {Rf : List Dt → Sto → Prop} {xs : List S} (ys : List Dt) (hx : ∀ R : List S → Sto → Prop, R xs M → wi γ M R) (hz : xs.length < sizeLine) (hl : ys.length = xs.length)
    (he : ∀ (i : Nat) (x : S) (y : Dt), xs[i]? = some x → ys[i]? = some y → ∀ (M : Sto) (R : KS), R (.d y) M → wg x (wipeE γ vs) M fun γ2 M2 => we γ2 M2 R) (hR : Rf ys M) : wLcB wi wg wYes we vs Rf γ M := by
  refine ⟨hx _ ⟨hz, fun i acc M' => M' = M ∧ acc = ys.take i, ⟨rfl, by simp⟩, ?_, ?_⟩⟩
  · rintro i x acc M' p hi ⟨rfl, rfl⟩ hp
    have hi2 : i < ys.length := by rw [hl]; exact (List.getElem?_eq_some_iff.mp hi).1
    refine he i x ys[i] hi (List.getElem?_eq_getElem hi2) _ _ ⟨ys[i], M', rfl, rfl, hp, rfl, ?_⟩
    rw [List.take_succ, List.getElem?_eq_getElem hi2]
    rfl
  · rintro acc M' ⟨rfl, rfl⟩
    rw [← hl, List.take_length]
    exact hR
theorem rows_get {bs : List (List Int)} {i : Nat} {x : S} (h : ((bs.map rowD).map S.d)[i]? = some x) : ∃ b, bs[i]? = some b ∧ x = .d (rowD b) := by
  rw [List.getElem?_map, List.getElem?_map] at h
  cases e : bs[i]? with
  | none => rw [e] at h; cases h
  | some b => rw [e] at h; cases h; exact ⟨b, rfl, rfl⟩
theorem bodiesL_get {bs : List (List Int)} {i : Nat} {b : List Int} {y : Dt} (e : bs[i]? = some b) (h : (bodiesL (bs.map frm))[i]? = some y) : y = .lst ((frm b).map Dt.int) := by
  unfold bodiesL at h
  rw [List.getElem?_map, List.getElem?_map, e] at h
  cases h
  rfl
theorem bodiesT_get {bs : List (List Int)} {i : Nat} {b : List Int} {y : Dt} (e : bs[i]? = some b) (h : (bodiesT bs)[i]? = some y) : y = .tup (b.map Dt.int) := by
  unfold bodiesT at h
  rw [List.getElem?_map, e] at h
  cases h
  rfl
theorem cutG_rows {bs : List (List Int)} {m : Int} (h0 : 0 ≤ m) (h1 : m ≤ bs.length) : cutG (bs.map rowD) none (some m) = (bs.take m.toNat).map rowD := by
  have := HT.sIx_nat (bs.map rowD).length (bs.map rowD).length m.toNat
  rw [show ((m.toNat : Nat) : Int) = m by omega, List.length_map, Nat.min_eq_left (by omega)] at this
  unfold cutG
  rw [List.length_map, this]
  show ((bs.map rowD).drop 0).take (m.toNat - 0) = _
  rw [List.drop_zero, Nat.sub_zero, List.map_take]
def wf_law : WF := fun ss M R => ∃ ns : List Int, ss = [.scr ns] ∧ R (.d (.bl true)) M
abbrev N_law : List Str := ["script", "deal", "pairs", "rows", "turn", "body", "row", "octets", "many", "ahead", "last", "cut", "bent", "wrong", "mixed", "one", "total", "number"]
def W_law : WS := (wSeq (wAsg (wCB wf__law_deal (wCons (wVar 0) (wCons (wC (.int 78)) wNil))) (wName 1))
  (wSeq (wPar 2 3 (wCons (wLstM wNil) (wCons (wLstM wNil) wNil)))
  (wSeq (wFor (wiRng1 (wCons (wCB wf__law_of (wCons (wVar 1) (wCons (wLst (wCons (wC (.int 1)) (wCons (wC (.int 2)) (wCons (wC (.int 4)) (wCons (wC (.int 7)) wNil))))) wNil))) wNil)) (wName 4)
  (wSeq (wAsg (wCB wf__law_some_body (wCons (wVar 1) wNil)) (wName 5))
  (wSeq (wAsg (wCB wf__law_framed (wCons (wVar 5) wNil)) (wName 6))
  (wSeq (wDrop (wApp (wMut (wVar 2)) (wTup (wCons (wIfE (wTest (wOp (wI2 fun i j => .bl (decide (i < j))) (wVar 4) (wC (.int 2)))) (wCB wf_frame (wCons (wCB (w1 wTupOf) (wCons (wVar 5) wNil)) wNil)) (wCB wf_frame (wCons (wCB (w1 wTupOf) (wCons (wVar 5) wNil)) wNil))) (wCons (wCB (w1 wTupOf) (wCons (wVar 6) wNil)) wNil)))))
  (wDrop (wApp (wMut (wVar 3)) (wTup (wCons (wVar 5) (wCons (wVar 6) wNil)))))))))
  (wFrz 3
  (wSeq (wAsg (wCB wf__law_joined (wCons (wLcD (wiList (wVar 3)) (wgTup 2 (wgCons (wName 5) (wgCons (wName 6) wgNil))) wYes (wVar 6) [5, 6]) wNil)) (wName 7))
  (wSeq (wDrop (wApp (wMut (wVar 2)) (wTup (wCons (wCB wf_frames (wCons (wCB (w1 wTupOf) (wCons (wVar 7) wNil)) wNil)) (wCons (wTup (wCons (wCB (w1 wTupOf) (wCons (wLcD (wiList (wVar 3)) (wgTup 2 (wgCons (wName 5) (wgCons (wName 6) wgNil))) wYes (wCB (w1 wTupOf) (wCons (wVar 5) wNil)) [5, 6]) wNil)) (wCons (wCB (w1 wLen) (wCons (wVar 7) wNil)) wNil))) wNil)))))
  (wSeq (wFor (wiRng1 (wCons (wC (.int 3)) wNil)) (wName 4)
  (wSeq (wAsg (wCB wf__law_any (wCons (wVar 1) (wCons (wCB (w1 wLen) (wCons (wVar 3) wNil)) wNil))) (wName 8))
  (wSeq (wAsg (wCB wf__law_joined (wCons (wLcD (wiList (wSl (wVar 3) wNoP (wPart (wVar 8)))) (wgTup 2 (wgCons (wName 5) (wgCons (wName 6) wgNil))) wYes (wVar 6) [5, 6]) wNil)) (wName 9))
  (wSeq (wAsg (wOp wIx (wOp wIx (wVar 3) (wVar 8)) (wC (.int 1))) (wName 10))
  (wSeq (wAsg (wOp wPlus (wVar 9) (wSl (wVar 10) wNoP (wPart (wCB wf__law_any (wCons (wVar 1) (wCons (wCB (w1 wLen) (wCons (wVar 10) wNil)) wNil)))))) (wName 11))
  (wSeq (wDrop (wApp (wMut (wVar 2)) (wTup (wCons (wCB wf_frames (wCons (wCB (w1 wTupOf) (wCons (wVar 11) wNil)) wNil)) (wCons (wTup (wCons (wCB (w1 wTupOf) (wCons (wLcD (wiList (wSl (wVar 3) wNoP (wPart (wVar 8)))) (wgTup 2 (wgCons (wName 5) (wgCons (wName 6) wgNil))) wYes (wCB (w1 wTupOf) (wCons (wVar 5) wNil)) [5, 6]) wNil)) (wCons (wCB (w1 wLen) (wCons (wVar 9) wNil)) wNil))) wNil)))))
  (wSeq (wDrop (wApp (wMut (wVar 2)) (wTup (wCons (wCB wf_frames (wCons (wCB (w1 wTupOf) (wCons (wOp wPlus (wVar 9) (wVar 10)) wNil)) wNil)) (wCons (wTup (wCons (wCB (w1 wTupOf) (wCons (wLcD (wiList (wSl (wVar 3) wNoP (wPart (wOp wPlus (wVar 8) (wC (.int 1)))))) (wgTup 2 (wgCons (wName 5) (wgCons (wName 6) wgNil))) wYes (wCB (w1 wTupOf) (wCons (wVar 5) wNil)) [5, 6]) wNil)) (wCons (wCB (w1 wLen) (wCons (wOp wPlus (wVar 9) (wVar 10)) wNil)) wNil))) wNil)))))
  (wSeq (wAsg (wCB wf__law_bent (wCons (wVar 1) (wCons (wVar 7) wNil))) (wName 12))
  (wSeq (wDrop (wApp (wMut (wVar 2)) (wTup (wCons (wCB wf_frames (wCons (wCB (w1 wTupOf) (wCons (wVar 12) wNil)) wNil)) (wCons (wCB wf__law_due (wCons (wVar 12) wNil)) wNil)))))
  (wSeq (wAsg (wCB wf__law_of (wCons (wVar 1) (wCons (wLst (wCons (wLst (wCons (wC (.int 0)) (wCons (wC (.int 0)) (wCons (wC (.int 1)) wNil)))) (wCons (wLst (wCons (wC (.int 1)) (wCons (wC (.int 0)) (wCons (wC (.int 1)) (wCons (wC (.int 0)) wNil))))) (wCons (wLst (wCons (wC (.int 0)) (wCons (wC (.int 1)) (wCons (wC (.int 0)) wNil)))) (wCons (wLst (wCons (wC (.int 128)) (wCons (wC (.int 0)) (wCons (wC (.int 0)) (wCons (wC (.int 0)) wNil))))) (wCons (wLst (wCons (wC (.int 1)) (wCons (wC (.int 5)) (wCons (wC (.int 0)) (wCons (wC (.int 5)) wNil))))) (wCons (wLst (wCons (wC (.int 255)) wNil)) (wCons (wLst (wCons (wC (.int 3)) (wCons (wC (.int 1)) (wCons (wC (.int 1)) (wCons (wC (.int 1)) (wCons (wC (.int 6)) wNil)))))) (wCons (wLst (wCons (wC (.int 2)) (wCons (wC (.int 1)) (wCons (wC (.int 1)) (wCons (wC (.int 3)) (wCons (wC (.int 1)) wNil)))))) wNil))))))))) wNil))) (wName 13))
  (wSeq (wAsg (wOp wPlus (wOp wPlus (wOp wPlus (wVar 9) (wVar 13)) (wVar 10)) (wLcD (wiRng1 (wCons (wCB wf__law_any (wCons (wVar 1) (wCons (wC (.int 5)) wNil))) wNil)) (wName 17) wYes (wCB wf__law_octet (wCons (wVar 1) wNil)) [17])) (wName 14))
  (wDrop (wApp (wMut (wVar 2)) (wTup (wCons (wCB wf_frames (wCons (wCB (w1 wTupOf) (wCons (wVar 14) wNil)) wNil)) (wCons (wCB wf__law_due (wCons (wVar 14) wNil)) wNil))))))))))))))))
  (wSeq (wIf (wTest (wOp wEq (wCB wf__law_any (wCons (wVar 1) (wCons (wC (.int 6)) wNil))) (wC (.int 0))))
  (wSeq (wPar 8 15 (wCons (wCB wf__law_of (wCons (wVar 1) (wCons (wLst (wCons (wC (.int 16384)) (wCons (wC (.int 16383)) (wCons (wC (.int 20000)) wNil)))) wNil))) (wCons (wCB wf__law_octet (wCons (wVar 1) wNil)) wNil)))
  (wSeq (wAsg (wOp (wI2c (fun _ j => 0 < j) fun i j => .int (i % j)) (wCB (w1 wIntOf) (wCons (wOp wMul (wVar 15) (wOp (wI2c CDivW fun i j => .int (i / j)) (wOp wMul (wVar 8) (wOp wPlus (wVar 8) (wC (.int 1)))) (wC (.int 2)))) wNil)) (wC (.int 65521))) (wName 16))
  (wSeq (wAsg (wOp wPlus (wOp wPlus (wCB wf__law_number_octets (wCons (wVar 8) wNil)) (wOp wMul (wLst (wCons (wVar 15) wNil)) (wVar 8))) (wLst (wCons (wOp (wI2c (fun _ j => 0 < j) fun i j => .int (i % j)) (wCB (w1 wIntOf) (wCons (wVar 16) wNil)) (wC (.int 256))) (wCons (wOp (wI2c CDivW fun i j => .int (i / j)) (wVar 16) (wC (.int 256))) wNil)))) (wName 6))
  (wSeq (wDrop (wApp (wMut (wVar 2)) (wTup (wCons (wCB wf_frame (wCons (wOp wMulM (wTup (wCons (wVar 15) wNil)) (wVar 8)) wNil)) (wCons (wCB (w1 wTupOf) (wCons (wVar 6) wNil)) wNil)))))
  (wDrop (wApp (wMut (wVar 2)) (wTup (wCons (wCB wf_frames (wCons (wCB (w1 wTupOf) (wCons (wOp wPlus (wVar 6) (wLst (wCons (wC (.int 0)) (wCons (wC (.int 0)) wNil)))) wNil)) wNil)) (wCons (wTup (wCons (wTup (wCons (wOp wMulM (wTup (wCons (wVar 15) wNil)) (wVar 8)) wNil)) (wCons (wCB (w1 wLen) (wCons (wVar 6) wNil)) wNil))) wNil)))))))))
  wNext)
  (wSeq (wDrop (wApp (wMut (wVar 2)) (wTup (wCons (wCB wf_frames (wCons (wTup wNil) wNil)) (wCons (wTup (wCons (wTup wNil) (wCons (wC (.int 0)) wNil))) wNil)))))
  (wRet (wCB wf__law_all (wCons (wFz (wVar 2)) wNil))))))))))))

theorem len_law : ∀ ss M R, wf_law ss M R → ss.length = 1 := by rintro ss M R ⟨_, rfl, _⟩; rfl
theorem law_law : ∀ ss M R, wf_law ss M R → W_law { nx := fun _ M => Fg R (.d .non) M, rt := Fg R } (startE N_law ss) M := by
  rintro ss M R ⟨ns, rfl, h⟩
  refine ⟨ns, 78, rfl, by decide, by decide, fun da ca M1 D1 o1 d0 c0 => ?_⟩
  refine ⟨Nat.zero_le _, fun pp hpp => ?_⟩
  refine ⟨Nat.zero_le _, fun rr hrr => ?_⟩
  have np := D1.off hpp
  have nrp : rr ≠ pp := fun z => by rw [z, put_same] at hrr; cases hrr
  have hrr1 : M1 rr = none := by rw [put_ne nrp] at hrr; exact hrr
  have nr := D1.off hrr1
  have r0 : M rr = none := by rw [← o1 rr nr.1 nr.2]; exact hrr1
  have L0 : LI M (put M1 pp (.lst [])) da ca pp 0 := ⟨D1.put np.1 np.2, ⟨[], put_same, by simp, Nat.le_refl _⟩, np.1, np.2, d0, c0, by rw [← o1 pp np.1 np.2]; exact hpp, fun q o e => by
    have q1 : q ≠ pp := fun z => by
      rw [z, ← o1 pp np.1 np.2, hpp] at e
      cases e
    rw [put_ne q1, o1 q (fun z => by rw [z, d0] at e; cases e) (fun z => by rw [z, c0] at e; cases e)]
    exact e⟩
  have L0 := L0.putO (o := .lst []) nr.1 nr.2 nrp r0
  -- the frames
  refine ⟨sz_le (by simp), ?_⟩
  refine ⟨da, ca, _, _, rfl, .inl rfl, by simp, by simp, L0.D, fun d M2 hd D2 o2 => ?_⟩
  have L2 := L0.draw D2 o2
  have hr2 : M2 rr = some (.lst []) := by rw [o2 rr nr.1 nr.2, put_same]
  have : ∃ t : Int, d = .int t ∧ 1 ≤ t ∧ t ≤ 7 := by
    simp only [List.mem_cons, List.not_mem_nil, or_false] at hd
    rcases hd with rfl | rfl | rfl | rfl <;> exact ⟨_, rfl, by decide, by decide⟩
  obtain ⟨tt, rfl, t0, t1⟩ := this
  refine ⟨by omega, by omega, ?_⟩
  refine ⟨fun i γ M' => i ≤ 7 ∧ LI M M' da ca pp i ∧ ∃ (bs : List (List Int)) (x4 x5 x6 x7 x8 x9 x10 x11 x12 x13 x14 x15 x16 x17 : Option S), γ = [some (.scr ns), some (.a da), some (.a pp), some (.a rr), x4, x5, x6, x7, x8, x9, x10, x11, x12, x13, x14, x15, x16, x17] ∧
    bs.length = i ∧ (∀ b ∈ bs, b.length ≤ 300) ∧ (∀ b ∈ bs, ∀ x ∈ b, 0 ≤ x ∧ x < 256) ∧ M' rr = some (.lst ((bs.map rowD).map S.d)),
    ⟨by omega, L2, [], _, _, _, _, _, _, _, _, _, _, _, _, _, _, rfl, rfl, by simp, by simp, hr2⟩, ?_, ?_⟩
  · rintro i x γ M3 hx ⟨hi7, L3, bs, x4, x5, x6, x7, x8, x9, x10, x11, x12, x13, x14, x15, x16, x17, rfl, hbl, hb3, hbo, hr3⟩
    have hi : i < tt.toNat := by
      have := (List.getElem?_eq_some_iff.mp hx).1
      rw [List.length_map, rgD_length] at this
      exact this
    rw [List.getElem?_map, rgD_get hi] at hx
    cases hx
    refine ⟨da, ca, rfl, L3.D, fun b M4 lb ob D4 o4 => ?_⟩
    have L4 := L3.draw D4 o4
    have hr4 : M4 rr = some (.lst ((bs.map rowD).map S.d)) := by rw [o4 rr nr.1 nr.2]; exact hr3
    refine ⟨b, rfl, ob, by omega, ?_⟩
    obtain ⟨ps, h1, h2, h3⟩ := L4.hp
    refine ⟨⟨pp, _, rfl, h1⟩, ?_⟩
    refine ifS ?_
    refine ⟨b, rfl, ob, by omega, two_sz, _, h1, by rw [List.length_map]; exact sz_lt (by omega), ?_⟩
    have hfl : (frm b).length ≤ 305 := by rw [frm_length]; have := digs3 (n := b.length) (by omega); omega
    have L5 := L4.app h1 (pln_T (ns := frm b) (by omega))
    refine ⟨⟨rr, _, rfl, by rw [put_ne nrp]; exact hr4⟩, two_sz, _, by rw [put_ne nrp]; exact hr4, by rw [List.length_map, List.length_map]; exact sz_lt (by omega), ?_⟩
    have L6 := L5.putO (o := .lst ((bs.map rowD).map S.d ++ [S.d (rowD b)])) nr.1 nr.2 nrp r0
    refine ⟨by omega, L6, bs ++ [b], _, _, _, _, _, _, _, _, _, _, _, _, _, _, rfl, by rw [List.length_append, List.length_singleton]; omega, ?_, ?_, ?_⟩
    · intro c hc
      rcases List.mem_append.mp hc with hc | hc
      · exact hb3 c hc
      · rw [List.mem_singleton] at hc; subst hc; exact lb
    · intro c hc
      rcases List.mem_append.mp hc with hc | hc
      · exact hbo c hc
      · rw [List.mem_singleton] at hc; subst hc; exact ob
    · rw [put_same, List.map_append, List.map_append]; rfl
  · rintro γ M3 ⟨hi7, L3, bs, x4, x5, x6, x7, x8, x9, x10, x11, x12, x13, x14, x15, x16, x17, rfl, hbl, hb3, hbo, hr3⟩
    rw [List.length_map, rgD_length] at hbl L3
    refine ⟨rr, bs.map rowD, rfl, hr3, ?_⟩
    have L3 := (L3.delO nr.1 nr.2 nrp r0).mono (show tt.toNat ≤ 7 by omega)
    clear hr3 hr2
    generalize del M3 rr = M4 at L3
    have hb7 : bs.length ≤ 7 := by omega
    have hb1 : 1 ≤ bs.length := by omega
    -- all octets
    have joinAll : ∀ cs : List (List Int), cs.length ≤ 7 → (cs.map rowD).length < sizeLine := fun cs hc => by rw [List.length_map]; exact sz_lt (by omega)
    have hfs := fl_size hb3
    have hfo := fl_oct hbo
    refine lcB_map2 (xs := (bs.map rowD).map S.d) (bodiesL (bs.map frm)) (fun R r => r) (by rw [List.length_map]; exact joinAll bs hb7) (by unfold bodiesL; simp) ?_ ?_
    · intro i x y hx hy M R r
      obtain ⟨b, hb, rfl⟩ := rows_get hx
      have := bodiesL_get hb hy
      subst this
      exact ⟨rfl, r⟩
    refine ⟨bs.map frm, rfl, by show (fl bs).length ≤ _; omega, ?_⟩
    have hcount : (framesOf (fl bs)) = (bs, (((fl bs).length : Nat) : Int)) := framesOf_fl bs
    have hlm : (((fl bs).map Dt.int).length : Nat) = (fl bs).length := List.length_map ..
    have s3 := sum3_300 hb3
    obtain ⟨ps, h1, h2, h3⟩ := L3.hp
    refine ⟨⟨pp, _, rfl, h1⟩, ?_⟩
    refine ⟨fl bs, rfl, by omega, hfo, ?_⟩
    refine lcB_map2 (xs := (bs.map rowD).map S.d) (bodiesT bs) (fun R r => r) (by rw [List.length_map]; exact joinAll bs hb7) (by unfold bodiesT; simp) ?_ ?_
    · intro i x y hx hy M R r
      obtain ⟨b, hb, rfl⟩ := rows_get hx
      have := bodiesT_get hb hy
      subst this
      exact ⟨rfl, r⟩
    refine ⟨two_sz, two_sz, _, h1, by rw [List.length_map]; exact sz_lt (by omega), ?_⟩
    have L5 : LI M (put M4 pp (.lst ((ps.map fun d => S.d (dup d)) ++ [S.d (.tup [frD (framesOf (fl bs)), .tup [.tup (bodiesT bs), .int ((((fl bs).map Dt.int).length : Nat) : Int)]])]))) da ca pp 8 := by
      rw [hcount, hlm]
      exact L3.app h1 (pln_frD (by omega))
    clear h1 h2 h3
    have L5 : LI M _ da ca pp 8 := L5
    -- three times
    refine ⟨by decide, by decide, ?_⟩
    refine ⟨fun i γ M' => i ≤ 3 ∧ LI M M' da ca pp (8 + 4 * i) ∧ ∃ (x4 x5 x6 x8 x9 x10 x11 x12 x13 x14 x15 x16 x17 : Option S), γ = [some (.scr ns), some (.a da), some (.a pp), some (.d (.lst (bs.map rowD))), x4, x5, x6, some (L (fl bs)), x8, x9, x10, x11, x12, x13, x14, x15, x16, x17],
      ⟨by omega, L5, _, _, _, _, _, _, _, _, _, _, _, _, _, rfl⟩, ?_, ?_⟩
    · rintro i x γ M5 hx ⟨hi3, L5, x4, x5, x6, x8, x9, x10, x11, x12, x13, x14, x15, x16, x17, rfl⟩
      have hi : i < 3 := by
        have := (List.getElem?_eq_some_iff.mp hx).1
        rw [List.length_map, rgD_length] at this
        exact this
      rw [List.getElem?_map, rgD_get (show i < (3 : Int).toNat from hi)] at hx
      cases hx
      have hbm : (bs.map rowD).length = bs.length := List.length_map ..
      refine ⟨da, ca, _, rfl, by rw [hbm]; omega, by rw [hbm]; omega, L5.D, fun m M6 m0 m1 D6 o6 => ?_⟩
      rw [hbm] at m1
      have L6 := L5.draw D6 o6
      obtain ⟨m, rfl⟩ := Int.eq_ofNat_of_zero_le m0
      have hm : m < bs.length := by omega
      have gm := List.getElem?_eq_getElem hm
      generalize hbdef : bs[m] = b at gm
      have hbmem : b ∈ bs := List.mem_of_getElem? gm
      have ct : cutG (bs.map rowD) none (some ((m : Nat) : Int)) = (bs.take m).map rowD := cutG_rows (by omega) (by omega)
      have ct1 : cutG (bs.map rowD) none (some (((m : Nat) : Int) + 1)) = (bs.take (m + 1)).map rowD := by
        have := cutG_rows (bs := bs) (m := ((m : Nat) : Int) + 1) (by omega) (by omega)
        rw [this, show (((m : Nat) : Int) + 1).toNat = m + 1 by omega]
      have t3 : ∀ k, ∀ c ∈ bs.take k, c.length ≤ 300 := fun k c hc => hb3 c (List.mem_of_mem_take hc)
      have to : ∀ k, ∀ c ∈ bs.take k, ∀ x ∈ c, 0 ≤ x ∧ x < 256 := fun k c hc => hbo c (List.mem_of_mem_take hc)
      have tl : ∀ k, (bs.take k).length ≤ 7 := fun k => by rw [List.length_take]; omega
      have afs : (fl (bs.take m)).length ≤ 2135 := Nat.le_trans (fl_size (t3 m)) (by have := tl m; omega)
      have lfs : (frm b).length ≤ 305 := by rw [frm_length]; have := hb3 b hbmem; have := digs3 (n := b.length) (by omega); omega
      have lfo := frm_oct (hbo b hbmem)
      have afo := fl_oct (to m)
      have e1 : fl (bs.take m) ++ frm b = fl (bs.take (m + 1)) := by
        rw [take_succ_get gm, fl_append]
        show _ = _ ++ (frm b ++ [])
        rw [List.append_nil]
      -- ahead
      refine lcB_map2 (xs := ((bs.take m).map rowD).map S.d) (bodiesL ((bs.take m).map frm)) (fun R r => by show R ((cutG (bs.map rowD) none (some ((m : Nat) : Int))).map S.d) _; rw [ct]; exact r) (by rw [List.length_map]; exact joinAll _ (tl m)) (by unfold bodiesL; simp) ?_ ?_
      · intro i x y hx hy M R r
        obtain ⟨b, hb, rfl⟩ := rows_get hx
        have := bodiesL_get hb hy
        subst this
        exact ⟨rfl, r⟩
      refine ⟨(bs.take m).map frm, rfl, by show (fl (bs.take m)).length ≤ _; omega, ?_⟩
      -- last, cut
      have gr : atI (bs.map rowD) ((m : Nat) : Int) = some (rowD b) := atI_nat (by rw [List.getElem?_map, gm]; rfl)
      refine ⟨rowD b, gr, _, rfl, ?_⟩
      have hfm : ((frm b).map Dt.int).length = (frm b).length := List.length_map ..
      have hfp : 0 < (frm b).length := by rw [frm_length]; omega
      refine ⟨da, ca, _, rfl, by rw [hfm]; omega, by rw [hfm]; omega, L6.D, fun c M7 c0 c1 D7 o7 => ?_⟩
      rw [hfm] at c1
      have L7 := L6.draw D7 o7
      obtain ⟨c, rfl⟩ := Int.eq_ofNat_of_zero_le c0
      have hc : c < (frm b).length := by omega
      have cc : cutG ((frm b).map Dt.int) none (some ((c : Nat) : Int)) = ((frm b).take c).map Dt.int := by
        rw [cutG_map, cut_to (by omega) (by omega)]
        rfl
      have ltk : ((frm b).take c).length ≤ 305 := by rw [List.length_take]; omega
      refine ⟨?_, ?_⟩
      · rw [cc]
        show ((fl (bs.take m)).map Dt.int).length + _ ≤ _
        rw [List.length_map, List.length_map]; exact sz_le (by omega)
      have w1 : ((((bs.take m).map frm).flatten.map Dt.int) ++ cutG ((frm b).map Dt.int) none (some ((c : Nat) : Int))) = (fl (bs.take m) ++ (frm b).take c).map Dt.int := by rw [cc, List.map_append]; rfl
      rw [w1]
      obtain ⟨ps, h1, h2, h3⟩ := L7.hp
      refine ⟨⟨pp, _, rfl, h1⟩, ?_⟩
      refine ⟨fl (bs.take m) ++ (frm b).take c, rfl, by rw [List.length_append]; omega, oct_app' afo (fun x hx => lfo x (List.mem_of_mem_take hx)), ?_⟩
      refine lcB_map2 (xs := ((bs.take m).map rowD).map S.d) (bodiesT (bs.take m)) (fun R r => by show R ((cutG (bs.map rowD) none (some ((m : Nat) : Int))).map S.d) _; rw [ct]; exact r) (by rw [List.length_map]; exact joinAll _ (tl m)) (by unfold bodiesT; simp) ?_ ?_
      · intro i x y hx hy M R r
        obtain ⟨b, hb, rfl⟩ := rows_get hx
        have := bodiesT_get hb hy
        subst this
        exact ⟨rfl, r⟩
      refine ⟨two_sz, two_sz, _, h1, by rw [List.length_map]; exact sz_lt (by omega), ?_⟩
      have L8 : LI M (put M7 pp (.lst ((ps.map fun d => S.d (dup d)) ++ [S.d (.tup [frD (framesOf (fl (bs.take m) ++ (frm b).take c)), .tup [.tup (bodiesT (bs.take m)), .int ((((fl (bs.take m)).map Dt.int).length : Nat) : Int)]])]))) da ca pp (8 + 4 * i + 1) := by
        rw [framesOf_join (no_cut hc), List.length_map]
        exact L7.app h1 (pln_frD (by have := sum3_300 (t3 m); have := tl m; omega))
      clear h1 h2 h3
      have L8 : LI M _ da ca pp (8 + 4 * i + 1) := L8
      obtain ⟨ps, h1, h2, h3⟩ := L8.hp
      refine ⟨⟨pp, _, rfl, h1⟩, ?_⟩
      have sz1 : (((bs.take m).map frm).flatten.map Dt.int).length + ((frm b).map Dt.int).length ≤ sizeLine := by
        show ((fl (bs.take m)).map Dt.int).length + _ ≤ _
        rw [List.length_map, List.length_map]; exact sz_le (by omega)
      refine ⟨sz1, ?_⟩
      have w2 : ((((bs.take m).map frm).flatten.map Dt.int) ++ ((frm b).map Dt.int)) = (fl (bs.take (m + 1))).map Dt.int := by rw [← e1, List.map_append]; rfl
      have l1s : (fl (bs.take (m + 1))).length ≤ 2440 := by rw [← e1, List.length_append]; omega
      refine ⟨fl (bs.take (m + 1)), congrArg (fun x => [S.d (.tup x)]) w2, by omega, fl_oct (to (m + 1)), ?_⟩
      refine lcB_map2 (xs := ((bs.take (m + 1)).map rowD).map S.d) (bodiesT (bs.take (m + 1))) (fun R r => by show R ((cutG (bs.map rowD) none (some (((m : Nat) : Int) + 1))).map S.d) _; rw [ct1]; exact r) (by rw [List.length_map]; exact joinAll _ (tl (m + 1))) (by unfold bodiesT; simp) ?_ ?_
      · intro i x y hx hy M R r
        obtain ⟨b, hb, rfl⟩ := rows_get hx
        have := bodiesT_get hb hy
        subst this
        exact ⟨rfl, r⟩
      refine ⟨sz1, two_sz, two_sz, _, h1, by rw [List.length_map]; exact sz_lt (by omega), ?_⟩
      rw [w2, framesOf_fl (bs.take (m + 1)), List.length_map (as := fl (bs.take (m + 1)))]
      have L9 := L8.app h1 (pln_frD (bs := bs.take (m + 1)) (p := (((fl (bs.take (m + 1))).length : Nat) : Int)) (by have := sum3_300 (t3 (m + 1)); have := tl (m + 1); omega))
      clear h1 h2 h3
      -- bent
      refine ⟨da, ca, fl bs, rfl, by omega, hfo, L9.D, fun bt M10 lbt obt D10 o10 => ?_⟩
      have L10 := L9.draw D10 o10
      obtain ⟨ps, h1, h2, h3⟩ := L10.hp
      refine ⟨⟨pp, _, rfl, h1⟩, ?_⟩
      refine ⟨bt, rfl, by omega, obt, ?_⟩
      refine ⟨bt, rfl, by omega, obt, ?_⟩
      refine ⟨two_sz, _, h1, by rw [List.length_map]; exact sz_lt (by omega), ?_⟩
      have L11 := L10.app h1 (pln_frs (by omega) obt)
      clear h1 h2 h3
      -- a wrong frame between
      refine ⟨sz_le (by simp), sz_le (by simp), sz_le (by simp), sz_le (by simp), sz_le (by simp), sz_le (by simp), sz_le (by simp), sz_le (by simp), sz_le (by simp), ?_⟩
      refine ⟨da, ca, _, _, rfl, .inl rfl, by simp, by simp, L11.D, fun d M12 hd D12 o12 => ?_⟩
      have L12 := L11.draw D12 o12
      have : ∃ ls : List Int, d = .lst (ls.map Dt.int) ∧ ls.length ≤ 5 ∧ ∀ x ∈ ls, 0 ≤ x ∧ x < 256 := by
        simp only [List.mem_cons, List.not_mem_nil, or_false] at hd
        rcases hd with rfl | rfl | rfl | rfl | rfl | rfl | rfl | rfl
        · exact ⟨[0, 0, 1], rfl, by simp, by simp⟩
        · exact ⟨[1, 0, 1, 0], rfl, by simp, by simp⟩
        · exact ⟨[0, 1, 0], rfl, by simp, by simp⟩
        · exact ⟨[128, 0, 0, 0], rfl, by simp, by simp⟩
        · exact ⟨[1, 5, 0, 5], rfl, by simp, by simp⟩
        · exact ⟨[255], rfl, by simp, by simp⟩
        · exact ⟨[3, 1, 1, 1, 6], rfl, by simp, by simp⟩
        · exact ⟨[2, 1, 1, 3, 1], rfl, by simp, by simp⟩
      obtain ⟨ls, rfl, hls, hlo⟩ := this
      have q1 : (((bs.take m).map frm).flatten.map Dt.int).length ≤ 2135 := by
        show ((fl (bs.take m)).map Dt.int).length ≤ _
        rw [List.length_map]; exact afs
      refine ⟨by rw [List.length_map (as := ls)]; exact sz_le (by omega), by rw [List.length_append, List.length_map (as := ls), hfm]; exact sz_le (by omega), ?_⟩
      refine ⟨da, ca, 5, rfl, by decide, by decide, L12.D, fun y M13 y0 y1 D13 o13 => ?_⟩
      have L13 := L12.draw D13 o13
      refine ⟨by omega, by omega, ?_⟩
      refine (lcB_draw (wi := fun _ M R => R ((rgD 0 y.toNat 1).map S.d) M) (j := 17) (we := wCB wf__law_octet (wCons (wVar 1) wNil)) (M := M13) (P := fun y => ∃ v : Int, y = .int v ∧ 0 ≤ v ∧ v < 256) (Rf := _)
        (γ := [some (.scr ns), some (.a da), some (.a pp), some (.d (.lst (bs.map rowD))), some (I (0 + (i : Nat) * 1)), x5, x6, some (L (fl bs)), some (I ((m : Nat) : Int)), some (L ((bs.take m).map frm).flatten), some (.d (.lst ((frm b).map Dt.int))), some (L (fl (bs.take m) ++ (frm b).take c)), some (L bt), some (.d (.lst (ls.map Dt.int))), x14, x15, x16, x17]) L13.D (fun R r => r) ?_ ?_ ?_).go
      · rw [List.length_map, rgD_length]; exact sz_lt (by omega)
      · intro z M2 R2 _ D2 k2
        exact ⟨da, ca, rfl, D2, fun x M' h0 h1 D' o' => k2 _ _ ⟨x, rfl, h0, h1⟩ D' o'⟩
      · intro ys M14 hyl hP D14 o14
        have L14 := L13.draw D14 o14
        obtain ⟨zs, rfl, hzo⟩ := ints_of hP
        rw [List.length_map, List.length_map, rgD_length] at hyl
        have w3 : ((((bs.take m).map frm).flatten.map Dt.int ++ ls.map Dt.int) ++ (frm b).map Dt.int) ++ zs.map Dt.int = (fl (bs.take m) ++ ls ++ frm b ++ zs).map Dt.int := by simp only [List.map_append]; rfl
        refine ⟨?_, ?_⟩
        · rw [List.length_append, List.length_append, List.length_map (as := ls), hfm, List.length_map (as := zs)]; exact sz_le (by omega)
        have lmx : (fl (bs.take m) ++ ls ++ frm b ++ zs).length ≤ 3000 := by rw [List.length_append, List.length_append, List.length_append]; omega
        have omx : ∀ x ∈ fl (bs.take m) ++ ls ++ frm b ++ zs, 0 ≤ x ∧ x < 256 := oct_app' (oct_app' (oct_app' afo hlo) lfo) hzo
        rw [w3]
        generalize fl (bs.take m) ++ ls ++ frm b ++ zs = mx at lmx omx ⊢
        obtain ⟨ps, h1, h2, h3⟩ := L14.hp
        refine ⟨⟨pp, _, rfl, h1⟩, ?_⟩
        refine ⟨mx, rfl, by omega, omx, ?_⟩
        refine ⟨mx, rfl, by omega, omx, ?_⟩
        refine ⟨two_sz, _, h1, by rw [List.length_map]; exact sz_lt (by omega), ?_⟩
        have L15 := L14.app h1 (pln_frs (by omega) omx)
        exact ⟨by omega, L15.mono (by omega), _, _, _, _, _, _, _, _, _, _, _, _, _, rfl⟩
    · rintro γ M5 ⟨hi3, L5, x4, x5, x6, x8, x9, x10, x11, x12, x13, x14, x15, x16, x17, rfl⟩
      have L5 : LI M M5 da ca pp (8 + 4 * 3) := L5
      have fin : ∀ (x3 x4 x5 x6 x7 x8 x9 x10 x11 x12 x13 x14 x15 x16 x17 : Option S) (M' : Sto), LI M M' da ca pp 30 → (wSeq (wDrop (wApp (wMut (wVar 2)) (wTup (wCons (wCB wf_frames (wCons (wTup wNil) wNil)) (wCons (wTup (wCons (wTup wNil) (wCons (wC (.int 0)) wNil))) wNil)))))
          (wRet (wCB wf__law_all (wCons (wFz (wVar 2)) wNil)))) { nx := fun _ M => Fg R (.d .non) M, rt := Fg R } [some (.scr ns), some (.a da), some (.a pp), x3, x4, x5, x6, x7, x8, x9, x10, x11, x12, x13, x14, x15, x16, x17] M' := by
        intro x3 x4 x5 x6 x7 x8 x9 x10 x11 x12 x13 x14 x15 x16 x17 M' L
        obtain ⟨ps, h1, h2, h3⟩ := L.hp
        refine ⟨⟨pp, _, rfl, h1⟩, ?_⟩
        refine ⟨Nat.zero_le _, [], rfl, Nat.zero_le _, by simp, Nat.zero_le _, two_sz, two_sz, _, h1, by rw [List.length_map]; exact sz_lt (by omega), ?_⟩
        have e0 : framesOf [] = ([], 0) := framesOf_fl []
        rw [e0]
        have L3 := L.app h1 (pln_frD (bs := []) (p := 0) (by decide))
        clear h1 h2 h3
        obtain ⟨ps, h1, h2, h3⟩ := L3.hp
        refine ⟨ps.map dup, by rw [List.map_map]; exact h1, ?_⟩
        refine ⟨ps, rfl, h2, by omega, ?_⟩
        refine ⟨M, fun q o e => ?_, h⟩
        rw [del_ne (fun z => by rw [z, L3.p0] at e; cases e)]
        exact L3.ex q o e
      refine ⟨da, ca, 6, rfl, by decide, by decide, L5.D, fun y M6 y0 y1 D6 o6 => ?_⟩
      have L6 := L5.draw D6 o6
      refine ⟨rfl, ?_⟩
      refine ifD (c := y = 0) (fun _ => ?_) fun _ => fin _ _ _ _ _ _ _ _ _ _ _ _ _ _ _ M6 (L6.mono (by omega))
      refine ⟨sz_le (by simp), ?_⟩
      refine ⟨da, ca, _, _, rfl, .inl rfl, by simp, by simp, L6.D, fun d M7 hd D7 o7 => ?_⟩
      have : ∃ n : Nat, d = .int (n : Int) ∧ 2 ≤ n ∧ n ≤ 20000 := by
        simp only [List.mem_cons, List.not_mem_nil, or_false] at hd
        rcases hd with rfl | rfl | rfl
        · exact ⟨16384, rfl, by decide, by decide⟩
        · exact ⟨16383, rfl, by decide, by decide⟩
        · exact ⟨20000, rfl, by decide, by decide⟩
      obtain ⟨n, rfl, n0, n1⟩ := this
      refine ⟨da, ca, rfl, D7, fun one M8 p0 p1 D8 o8 => ?_⟩
      have L8 := (L6.draw D7 o7).draw D8 o8
      have htri := tri_div n
      have hle : tri 0 n ≤ 400020000 := by
        have h1 := tri_eq n 0
        have h2 : n * (2 * 0 + n + 1) ≤ 20000 * 20001 := Nat.mul_le_mul n1 (by omega)
        omega
      refine ⟨cmulS (by omega) (by omega), cdiv (by decide) (by decide), ?_⟩
      have hB : (List.replicate n one).length = n := List.length_replicate
      have hBo : ∀ x ∈ List.replicate n one, 0 ≤ x ∧ x < 256 := fun x hx => by
        rw [List.mem_replicate] at hx
        omega
      have hsum : one * (((n : Int) * ((n : Int) + 1)) / 2) % 65521 = sumO 0 (List.replicate n one) % 65521 := by rw [htri, sum_rep]
      have hd3 := digs3 (n := n) (by omega)
      refine ⟨cmulS (by omega) (by show (((n : Int) * ((n : Int) + 1)) / 2).natAbs < _; rw [htri]; omega), ?_⟩
      refine ⟨(by show (0 : Int) < 65521; decide), ?_⟩
      refine ⟨n, rfl, by omega, one_sz, by omega, by omega, by show 1 * (n : Int).toNat ≤ _; exact sz_le (by omega), ?_, (by show (0 : Int) < 256; decide), cdiv (by decide) (by decide), two_sz, ?_, ?_⟩
      · show ((digs n).map Dt.int).length + ((List.replicate n [Dt.int one]).flatten).length ≤ _
        rw [rep_C, List.length_map, List.length_map, hB]; exact sz_le (by omega)
      · show ((digs n).map Dt.int ++ (List.replicate n [Dt.int one]).flatten).length + 2 ≤ _
        rw [rep_C, List.length_append, List.length_map, List.length_map, hB]; exact sz_le (by omega)
      have w1 : ((digs n).map Dt.int ++ (List.replicate ((n : Nat) : Int).toNat [Dt.int one]).flatten) ++ [Dt.int (one * (((n : Int) * ((n : Int) + 1)) / 2) % 65521 % 256), Dt.int (one * (((n : Int) * ((n : Int) + 1)) / 2) % 65521 / 256)] = (frm (List.replicate n one)).map Dt.int := by
        rw [hsum, Int.toNat_natCast, rep_C]
        unfold frm pairO
        rw [hB, List.map_append, List.map_append]
        rfl
      rw [w1]
      have hfl : (frm (List.replicate n one)).length ≤ 20005 := by rw [frm_length, hB]; omega
      have hfo := frm_oct hBo
      have hfr : framesOf (frm (List.replicate n one) ++ [0, 0]) = ([List.replicate n one], (((frm (List.replicate n one)).length : Nat) : Int)) := by
        have := framesOf_join no_zz [List.replicate n one]
        rw [show fl [List.replicate n one] = frm (List.replicate n one) from List.append_nil _] at this
        exact this
      have hpl : Pln (frD ([List.replicate n one], (((frm (List.replicate n one)).length : Nat) : Int))) := pln_frD (by rw [List.map_cons, List.map_nil, List.sum_cons, List.sum_nil, hB]; omega)
      have hwB : [S.d (.tup (List.replicate ((n : Nat) : Int).toNat [Dt.int one]).flatten)] = [T (List.replicate n one)] := congrArg (fun l => [S.d (.tup l)]) (rep_C n one)
      have hwB2 : (List.replicate ((n : Nat) : Int).toNat [Dt.int one]).flatten = (List.replicate n one).map Dt.int := rep_C n one
      generalize List.replicate n one = B at hB hBo hfl hfo hfr hpl hwB hwB2 ⊢
      obtain ⟨ps, h1, h2, h3⟩ := L8.hp
      refine ⟨⟨pp, _, rfl, h1⟩, ?_⟩
      refine ⟨one_sz, by simp, by omega, by show ((1 : Nat) : Int) * (n : Int) ≤ _; omega, ?_⟩
      refine ⟨B, hwB, hBo, by omega, two_sz, _, h1, by rw [List.length_map]; exact sz_lt (by omega), ?_⟩
      have L9 := L8.app h1 (pln_T (ns := frm B) (by omega))
      clear h1 h2 h3
      obtain ⟨ps, h1, h2, h3⟩ := L9.hp
      refine ⟨⟨pp, _, rfl, h1⟩, ?_⟩
      refine ⟨two_sz, ?_, ?_⟩
      · show ((frm B).map Dt.int).length + 2 ≤ _
        rw [List.length_map]; exact sz_le (by omega)
      have w2 : [S.d (.tup ((frm B).map Dt.int ++ [Dt.int 0, Dt.int 0]))] = [T (frm B ++ [0, 0])] := by
        show _ = [S.d (.tup ((frm B ++ [0, 0]).map Dt.int))]
        rw [List.map_append]
        rfl
      refine ⟨frm B ++ [0, 0], w2, by rw [List.length_append]; show _ + 2 ≤ _; omega, oct_app' hfo (by simp), ?_⟩
      refine ⟨one_sz, by simp, by omega, by show ((1 : Nat) : Int) * (n : Int) ≤ _; omega, one_sz, two_sz, two_sz, _, h1, by rw [List.length_map]; exact sz_lt (by omega), ?_⟩
      rw [hfr, hwB2, List.length_map (as := frm B)]
      have L10 := L9.app h1 hpl
      exact fin _ _ _ _ _ _ _ _ _ _ _ _ _ _ _ _ (L10.mono (by omega))

end Lw
set_option Elab.async false
set_option linter.all false
set_option maxRecDepth 100000
set_option maxHeartbeats 4000000
namespace Lw
open PySem PySem.Spec PyProof.Rows L2
/-! ## the walk -/
def top (i : Nat) : Stmt := PySem.Challenge.pw_thoughsomelie_k78_frames_are_read_up_to.main.body.getD i (.Pass ⟨0, 0, 0, 0⟩)
structure Txt (K : PySem.W.Frag) (mg : Str → Option Value) : Prop where
  b_len : mg "len" = none
  b_list : mg "list" = none
  b_tuple : mg "tuple" = none
  b_int : mg "int" = none
  b_abs : mg "abs" = none
  b_sum : mg "sum" = none
  b_range : mg "range" = none
  b_enumerate : mg "enumerate" = none
  b_zip : mg "zip" = none
  b_isinstance : mg "isinstance" = none
  b_str : mg "str" = none
  b_bool : mg "bool" = none
  b_dict : mg "dict" = none
  c_BASE : ∃ t, mg "BASE" = some (.int 128 t)
  c_OCTET : ∃ t, mg "OCTET" = some (.int 256 t)
  c_PRIME : ∃ t, mg "PRIME" = some (.int 65521 t)
  c_SUM_OCTETS : ∃ t, mg "SUM_OCTETS" = some (.int 2 t)
  k_Answer : OwnCls K mg "Answer"
section
variable {P : Program} {w : World} {K : PySem.W.Frag} {mg : Str → Option Value} {base : Heap}
abbrev s_octets_of_number : Stmt := top 4
theorem sc_octets_of_number : FnScope N_octets_of_number ["number"] (defScope s_octets_of_number) := ⟨rfl, rfl, rfl, by decide +kernel, rfl, by decide +kernel, by decide +kernel⟩
theorem ok_octets_of_number {f : Addr} {fd : FuncData} (F : Fun K "octets_of_number" "octets_of_number" s_octets_of_number f fd) (T : Txt K mg) : FnOk P w K mg base CX0 1 f fd ["number"] (spW K wf_octets_of_number) :=
  fd_ok (wb := W_octets_of_number) F sc_octets_of_number len_octets_of_number (fun cdv A outer s H E hr => (s_cons (s_asg (d_lstM a_nil) (g_name 1 sc_octets_of_number.nd))
  (s_cons (s_asg (dv 0) (g_name 2 sc_octets_of_number.nd))
  (s_cons (s_while PassesOwn.never (tc_ge (dv 2) (d_gI rfl T.c_BASE))
  (s_cons (s_expr (d_append (dv 1) (d_add (d_gI rfl T.c_BASE) (d_mod (dv 2) (d_gI rfl T.c_BASE)))))
  (s_one (s_asg (d_div (dv 2) (d_gI rfl T.c_BASE)) (g_name 2 sc_octets_of_number.nd)))))
  (s_cons (s_expr (d_append (dv 1) (dv 2)))
  (s_one (s_ret (d_tuple T.b_tuple (d_fz (dv 1)))))))))) law_octets_of_number

abbrev s_number_octets : Stmt := top 12
theorem sc_number_octets : FnScope N_number_octets ["number"] (defScope s_number_octets) := ⟨rfl, rfl, rfl, by decide +kernel, rfl, by decide +kernel, by decide +kernel⟩
theorem ok_number_octets {f : Addr} {fd : FuncData} (F : Fun K "number_octets" "number_octets" s_number_octets f fd) (T : Txt K mg) (F_octets_of_number : Fd P w K mg base "octets_of_number" 1 ["number"] wf_octets_of_number) : FnOk P w K mg base CX0 2 f fd ["number"] (spW K wf_number_octets) :=
  fd_ok (wb := W_number_octets) F sc_number_octets len_number_octets (fun cdv A outer s H E hr => (s_one (s_ret (d_call F_octets_of_number hr (a_cons (dv 0) a_nil))))) law_number_octets

abbrev s_sum_of_octets : Stmt := top 13
theorem sc_sum_of_octets : FnScope N_sum_of_octets ["octets"] (defScope s_sum_of_octets) := ⟨rfl, rfl, rfl, by decide +kernel, rfl, by decide +kernel, by decide +kernel⟩
theorem ok_sum_of_octets {f : Addr} {fd : FuncData} (F : Fun K "sum_of_octets" "sum_of_octets" s_sum_of_octets f fd) (T : Txt K mg) : FnOk P w K mg base CX0 1 f fd ["octets"] (spW K wf_sum_of_octets) :=
  fd_ok (wb := W_sum_of_octets) F sc_sum_of_octets len_sum_of_octets (fun cdv A outer s H E hr => (s_cons (s_asg d_int (g_name 1 sc_sum_of_octets.nd))
  (s_cons (s_for PassesOwn.never rfl (i_enT T.b_enumerate (a_cons (dv 0) a_nil)) (g_tup rfl (gs_cons (g_name 2 sc_sum_of_octets.nd) (gs_cons (g_name 3 sc_sum_of_octets.nd) gs_nil)))
  (s_one (s_augI sc_sum_of_octets.nd (i := 1) (d_mul (d_add (dv 2) d_int) (dv 3)))))
  (s_one (s_ret (d_mod (dv 1) (d_gI rfl T.c_PRIME))))))) law_sum_of_octets

abbrev s_sum_pair : Stmt := top 14
theorem sc_sum_pair : FnScope N_sum_pair ["body"] (defScope s_sum_pair) := ⟨rfl, rfl, rfl, by decide +kernel, rfl, by decide +kernel, by decide +kernel⟩
theorem ok_sum_pair {f : Addr} {fd : FuncData} (F : Fun K "sum_pair" "sum_pair" s_sum_pair f fd) (T : Txt K mg) (F_sum_of_octets : Fd P w K mg base "sum_of_octets" 1 ["octets"] wf_sum_of_octets) : FnOk P w K mg base CX0 2 f fd ["body"] (spW K wf_sum_pair) :=
  fd_ok (wb := W_sum_pair) F sc_sum_pair len_sum_pair (fun cdv A outer s H E hr => (s_cons (s_asg (d_call F_sum_of_octets hr (a_cons (dv 0) a_nil)) (g_name 1 sc_sum_pair.nd))
  (s_one (s_ret (d_tup (a_cons (d_mod (dv 1) (d_gI rfl T.c_OCTET)) (a_cons (d_div (dv 1) (d_gI rfl T.c_OCTET)) a_nil))))))) law_sum_pair

abbrev s_frame : Stmt := top 15
theorem sc_frame : FnScope N_frame ["body"] (defScope s_frame) := ⟨rfl, rfl, rfl, by decide +kernel, rfl, by decide +kernel, by decide +kernel⟩
theorem ok_frame {f : Addr} {fd : FuncData} (F : Fun K "frame" "frame" s_frame f fd) (T : Txt K mg) (F_number_octets : Fd P w K mg base "number_octets" 2 ["number"] wf_number_octets) (F_sum_pair : Fd P w K mg base "sum_pair" 2 ["body"] wf_sum_pair) : FnOk P w K mg base CX0 3 f fd ["body"] (spW K wf_frame) :=
  fd_ok (wb := W_frame) F sc_frame len_frame (fun cdv A outer s H E hr => (s_one (s_ret (d_add (d_add (d_call F_number_octets hr (a_cons (d_len T.b_len (dv 0)) a_nil)) (d_tuple T.b_tuple (dv 0))) (d_call F_sum_pair hr (a_cons (dv 0) a_nil)))))) law_frame

abbrev s_number_of : Stmt := top 5
theorem sc_number_of : FnScope N_number_of ["figures"] (defScope s_number_of) := ⟨rfl, rfl, rfl, by decide +kernel, rfl, by decide +kernel, by decide +kernel⟩
theorem ok_number_of {f : Addr} {fd : FuncData} (F : Fun K "number_of" "number_of" s_number_of f fd) (T : Txt K mg) : FnOk P w K mg base CX0 1 f fd ["figures"] (spW K wf_number_of) :=
  fd_ok (wb := W_number_of) F sc_number_of len_number_of (fun cdv A outer s H E hr => (s_cons (s_asg (d_tup (a_cons (d_list T.b_list (dv 0)) (a_cons (d_gI rfl T.c_BASE) a_nil))) (g_tup rfl (gs_cons (g_name 1 sc_number_of.nd) (gs_cons (g_name 2 sc_number_of.nd) gs_nil))))
  (s_cons (s_while PassesOwn.never (tc_gt (d_len T.b_len (dv 1)) d_int)
  (s_cons (s_setLcM (k := 3) rfl sc_number_of.nd rfl rfl (sw_true rfl rfl rfl (by decide +kernel)) (i_rng3 T.b_range (a_cons d_int (a_cons (d_sub (d_len T.b_len (dv 1)) d_int) (a_cons d_int a_nil)))) (blkOk_by (own := [("at", 4)]) (N := N_number_of) (sc := defScope s_number_of) (by decide +kernel)) (fun _ _ _ _ _ => pg_name (i := 4) sc_number_of.nd rfl (Or.inl rfl)) (by decide) (fun _ _ _ _ _ => ts_nil) (fun _ _ _ _ _ => (d_add (d_ix (dv 1) (dv 4)) (d_mul (dv 2) (d_ix (dv 1) (d_add (dv 4) d_int))))))
  (s_cons (s_if (tc_eq (d_mod (d_len T.b_len (dv 1)) d_int) d_int)
  (s_one (s_expr (d_append (dv 3) (d_ix (dv 1) (d_sub (d_len T.b_len (dv 1)) d_int)))))
  s_nil)
  (s_cons (s_asg (d_fz (dv 3)) (g_name 1 sc_number_of.nd))
  (s_one (s_asg (d_mul (dv 2) (dv 2)) (g_name 2 sc_number_of.nd)))))))
  (s_one (s_ret (d_ix (dv 1) d_int)))))) law_number_of

abbrev s_behind_number : Stmt := top 6
theorem sc_behind_number : FnScope N_behind_number ["octets", "at"] (defScope s_behind_number) := ⟨rfl, rfl, rfl, by decide +kernel, rfl, by decide +kernel, by decide +kernel⟩
theorem ok_behind_number {f : Addr} {fd : FuncData} (F : Fun K "behind_number" "behind_number" s_behind_number f fd) (T : Txt K mg) : FnOk P w K mg base CX0 1 f fd ["octets", "at"] (spW K wf_behind_number) :=
  fd_ok (wb := W_behind_number) F sc_behind_number len_behind_number (fun cdv A outer s H E hr => (s_cons (s_if (tc_lt (dv 1) d_int)
  (s_one (s_ret d_non))
  s_nil)
  (s_cons (s_for PassesOwn.never rfl (i_rng2 T.b_range (a_cons (dv 1) (a_cons (d_len T.b_len (dv 0)) a_nil))) (g_name 2 sc_behind_number.nd)
  (s_one (s_if (tc_lt (d_ix (dv 0) (dv 2)) (d_gI rfl T.c_BASE))
  (s_one (s_ret (d_add (dv 2) d_int)))
  s_nil)))
  (s_one (s_ret d_non))))) law_behind_number

abbrev s_number_in : Stmt := top 7
theorem sc_number_in : FnScope N_number_in ["octets", "at"] (defScope s_number_in) := ⟨rfl, rfl, rfl, by decide +kernel, rfl, by decide +kernel, by decide +kernel⟩
theorem ok_number_in {f : Addr} {fd : FuncData} (F : Fun K "number_in" "number_in" s_number_in f fd) (T : Txt K mg) (F_number_of : Fd P w K mg base "number_of" 1 ["figures"] wf_number_of) (F_behind_number : Fd P w K mg base "behind_number" 1 ["octets", "at"] wf_behind_number) : FnOk P w K mg base CX0 2 f fd ["octets", "at"] (spW K wf_number_in) :=
  fd_ok (wb := W_number_in) F sc_number_in len_number_in (fun cdv A outer s H E hr => (s_cons (s_asg (d_call F_behind_number hr (a_cons (dv 0) (a_cons (dv 1) a_nil))) (g_name 2 sc_number_in.nd))
  (s_cons (s_if (t_w (t_or (tc_isN (dv 2)) (t_or1 (t_w (t_and (tc_gt (d_sub (dv 2) (dv 1)) d_int) (t_and1 (tc_eq (d_ix (dv 0) (d_sub (dv 2) d_int)) d_int)))))))
  (s_one (s_ret d_non))
  s_nil)
  (s_cons (s_asg (d_add (d_lcN rfl sc_number_in.nd (i_tup (d_sl (dv 0) (o_some (dv 1)) (o_some (d_sub (dv 2) d_int)))) (blkOk_by (own := [("octet", 4)]) (N := N_number_in) (sc := defScope s_number_in) (by decide +kernel)) (fun _ _ _ _ _ => pg_name (i := 4) sc_number_in.nd rfl (Or.inl rfl)) (by decide) (fun _ _ _ _ _ => ts_nil) (fun _ _ _ _ _ => (d_sub (dv 4) (d_gI rfl T.c_BASE)))) (d_lst (a_cons (d_ix (dv 0) (d_sub (dv 2) d_int)) a_nil))) (g_name 3 sc_number_in.nd))
  (s_one (s_ret (d_tup (a_cons (d_call F_number_of hr (a_cons (dv 3) a_nil)) (a_cons (dv 2) a_nil))))))))) law_number_in

abbrev s_frame_at : Stmt := top 16
theorem sc_frame_at : FnScope N_frame_at ["octets", "at"] (defScope s_frame_at) := ⟨rfl, rfl, rfl, by decide +kernel, rfl, by decide +kernel, by decide +kernel⟩
theorem ok_frame_at {f : Addr} {fd : FuncData} (F : Fun K "frame_at" "frame_at" s_frame_at f fd) (T : Txt K mg) (F_number_in : Fd P w K mg base "number_in" 2 ["octets", "at"] wf_number_in) (F_sum_pair : Fd P w K mg base "sum_pair" 2 ["body"] wf_sum_pair) : FnOk P w K mg base CX0 3 f fd ["octets", "at"] (spW K wf_frame_at) :=
  fd_ok (wb := W_frame_at) F sc_frame_at len_frame_at (fun cdv A outer s H E hr => (s_cons (s_asg (d_call F_number_in hr (a_cons (dv 0) (a_cons (dv 1) a_nil))) (g_name 2 sc_frame_at.nd))
  (s_cons (s_if (t_w (t_or (tc_isN (dv 2)) (t_or1 (tc_gt (d_add (d_ix (dv 2) d_int) (d_gI rfl T.c_SUM_OCTETS)) (d_sub (d_len T.b_len (dv 0)) (d_ix (dv 2) d_int))))))
  (s_one (s_ret d_non))
  s_nil)
  (s_cons (s_asg (d_add (d_ix (dv 2) d_int) (d_ix (dv 2) d_int)) (g_name 3 sc_frame_at.nd))
  (s_cons (s_asg (d_sl (dv 0) (o_some (d_ix (dv 2) d_int)) (o_some (dv 3))) (g_name 4 sc_frame_at.nd))
  (s_cons (s_if (tc_neD hr (d_sl (dv 0) (o_some (dv 3)) (o_some (d_add (dv 3) (d_gI rfl T.c_SUM_OCTETS)))) (d_call F_sum_pair hr (a_cons (dv 4) a_nil)))
  (s_one (s_ret d_non))
  s_nil)
  (s_one (s_ret (d_tup (a_cons (dv 4) (a_cons (d_add (dv 3) (d_gI rfl T.c_SUM_OCTETS)) a_nil))))))))))) law_frame_at

abbrev s_frames : Stmt := top 17
theorem sc_frames : FnScope N_frames ["octets"] (defScope s_frames) := ⟨rfl, rfl, rfl, by decide +kernel, rfl, by decide +kernel, by decide +kernel⟩
theorem ok_frames {f : Addr} {fd : FuncData} (F : Fun K "frames" "frames" s_frames f fd) (T : Txt K mg) (F_frame_at : Fd P w K mg base "frame_at" 3 ["octets", "at"] wf_frame_at) : FnOk P w K mg base CX0 4 f fd ["octets"] (spW K wf_frames) :=
  fd_ok (wb := W_frames) F sc_frames len_frames (fun cdv A outer s H E hr => (s_cons (s_asg (d_tuple T.b_tuple (dv 0)) (g_name 0 sc_frames.nd))
  (s_cons (s_par (i := 1) (j := 2) rfl sc_frames.nd rfl rfl (by decide) rfl rfl (a_cons (d_lstM a_nil) (a_cons d_int a_nil)) (by rfl))
  (s_cons (s_asg (d_call F_frame_at hr (a_cons (dv 0) (a_cons d_int a_nil))) (g_name 3 sc_frames.nd))
  (s_cons (s_while PassesOwn.never (tc_notN (dv 3))
  (s_cons (s_expr (d_append (dv 1) (d_ix (dv 3) d_int)))
  (s_cons (s_asg (d_ix (dv 3) d_int) (g_name 2 sc_frames.nd))
  (s_one (s_asg (d_call F_frame_at hr (a_cons (dv 0) (a_cons (dv 2) a_nil))) (g_name 3 sc_frames.nd))))))
  (s_one (s_ret (d_tup (a_cons (d_tuple T.b_tuple (d_fz (dv 1))) (a_cons (dv 2) a_nil)))))))))) law_frames

abbrev s__law_deal : Stmt := top 19
theorem sc__law_deal : FnScope N__law_deal ["script", "salt"] (defScope s__law_deal) := ⟨rfl, rfl, rfl, by decide +kernel, rfl, by decide +kernel, by decide +kernel⟩
theorem ok__law_deal {f : Addr} {fd : FuncData} (F : Fun K "_law_deal" "_law_deal" s__law_deal f fd) (T : Txt K mg) : FnOk P w K mg base CX0 1 f fd ["script", "salt"] (spW K wf__law_deal) :=
  fd_ok (wb := W__law_deal) F sc__law_deal len__law_deal (fun cdv A outer s H E hr => (s_cons (s_asg (d_mul (d_mul (d_mul (d_mul (d_mul (d_pow d_int d_int) (d_pow d_int d_int)) (d_pow d_int d_int)) (d_pow d_int d_int)) (d_pow d_int d_int)) (d_pow d_int d_int)) (g_name 2 sc__law_deal.nd))
  (s_cons (s_par (i := 3) (j := 4) rfl sc__law_deal.nd rfl rfl (by decide) rfl rfl (a_cons (d_lcN rfl sc__law_deal.nd (i_list (d_sl (dv 0) o_no (o_some d_int))) (blkOk_by (own := [("cell", 5)]) (N := N__law_deal) (sc := defScope s__law_deal) (by decide +kernel)) (fun _ _ _ _ _ => pg_name (i := 5) sc__law_deal.nd rfl (Or.inl rfl)) (by decide) (fun _ _ _ _ _ => ts_nil) (fun _ _ _ _ _ => (d_mod (d_intOf T.b_int (d_abs T.b_abs (d_intOf T.b_int (dv 5)))) (dv 2)))) (a_cons (d_add d_int (d_mul d_int (dv 1))) a_nil)) (by rfl))
  (s_cons (s_for PassesOwn.never rfl (i_list (dv 3)) (g_name 5 sc__law_deal.nd)
  (s_one (s_asg (d_mod (d_intOf T.b_int (d_add (d_add (d_mul (dv 4) d_int) (d_mod (d_intOf T.b_int (dv 5)) d_int)) d_int)) d_int) (g_name 4 sc__law_deal.nd))))
  (s_one (s_ret (d_lstM (a_cons (d_revM (d_lcN rfl sc__law_deal.nd (i_list (dv 3)) (blkOk_by (own := [("cell", 5)]) (N := N__law_deal) (sc := defScope s__law_deal) (by decide +kernel)) (fun _ _ _ _ _ => pg_name (i := 5) sc__law_deal.nd rfl (Or.inl rfl)) (by decide) (fun _ _ _ _ _ => ts_one (tc_ge (dv 5) (d_pow d_int d_int))) (fun _ _ _ _ _ => (dv 5)))) (a_cons (dv 4) a_nil))))))))) law__law_deal

abbrev s__law_any : Stmt := top 20
theorem sc__law_any : FnScope N__law_any ["deal", "bound"] (defScope s__law_any) := ⟨rfl, rfl, rfl, by decide +kernel, rfl, by decide +kernel, by decide +kernel⟩
theorem ok__law_any {f : Addr} {fd : FuncData} (F : Fun K "_law_any" "_law_any" s__law_any f fd) (T : Txt K mg) : FnOk P w K mg base CX0 1 f fd ["deal", "bound"] (spW K wf__law_any) :=
  fd_ok (wb := W__law_any) F sc__law_any len__law_any (fun cdv A outer s H E hr => (s_cons (s_while PassesOwn.never (t_w (t_and (tc_gt (d_len T.b_len (d_ix (dv 0) d_int)) d_int) (t_and1 (tc_eq (d_ix (d_ix (dv 0) d_int) (d_neg d_int)) d_int))))
  (s_one (s_expr (d_pop (d_ix (dv 0) d_int)))))
  (s_cons (s_if (tc_gt (d_len T.b_len (d_ix (dv 0) d_int)) d_int)
  (s_cons (s_asg (d_intOf T.b_int (d_pop (d_ix (dv 0) d_int))) (g_name 2 sc__law_any.nd))
  (s_cons (s_expr (d_append (d_ix (dv 0) d_int) (d_div (dv 2) (dv 1))))
  (s_one (s_ret (d_mod (dv 2) (dv 1))))))
  s_nil)
  (s_cons (s_asg (d_mod (d_intOf T.b_int (d_add (d_mul (d_ix (dv 0) d_int) d_int) d_int)) d_int) (g_sub (dv 0) d_int))
  (s_one (s_ret (d_mod (d_intOf T.b_int (d_div (d_ix (dv 0) d_int) d_int)) (dv 1)))))))) law__law_any

abbrev s__law_of : Stmt := top 21
theorem sc__law_of : FnScope N__law_of ["deal", "some"] (defScope s__law_of) := ⟨rfl, rfl, rfl, by decide +kernel, rfl, by decide +kernel, by decide +kernel⟩
theorem ok__law_of {f : Addr} {fd : FuncData} (F : Fun K "_law_of" "_law_of" s__law_of f fd) (T : Txt K mg) (F__law_any : Fd P w K mg base "_law_any" 1 ["deal", "bound"] wf__law_any) : FnOk P w K mg base CX0 2 f fd ["deal", "some"] (spW K wf__law_of) :=
  fd_ok (wb := W__law_of) F sc__law_of len__law_of (fun cdv A outer s H E hr => (s_one (s_ret (d_ix (dv 1) (d_call F__law_any hr (a_cons (dv 0) (a_cons (d_len T.b_len (dv 1)) a_nil))))))) law__law_of

abbrev s__law_is_kind : Stmt := top 22
theorem sc__law_is_kind : FnScope N__law_is_kind ["told", "due"] (defScope s__law_is_kind) := ⟨rfl, rfl, rfl, by decide +kernel, rfl, by decide +kernel, by decide +kernel⟩
theorem ok__law_is_kind {f : Addr} {fd : FuncData} (F : Fun K "_law_is_kind" "_law_is_kind" s__law_is_kind f fd) (T : Txt K mg) : FnOk P w K mg base CX0 1 f fd ["told", "due"] (spW K wf__law_is_kind) :=
  fd_ok (wb := W__law_is_kind) F sc__law_is_kind len__law_is_kind (fun cdv A outer s H E hr => (s_cons (s_if (tc_isN (dv 1))
  (s_one (s_ret (d_isN (dv 0))))
  s_nil)
  (s_cons (s_if (t_w (t_or (tc_isB (dv 1)) (t_or1 (tc_isB (dv 1)))))
  (s_one (s_ret (d_ifE (t_val (dv 1)) (d_isB (dv 0)) (d_isB (dv 0)))))
  s_nil)
  (s_cons (s_if (t_val (isi_str T.b_isinstance T.b_str (dv 1)))
  (s_one (s_ret (d_and (isi_str T.b_isinstance T.b_str (dv 0)) (d_one (d_eq (dv 0) (dv 1))))))
  s_nil)
  (s_one (s_ret (d_and (isi_int T.b_isinstance T.b_int (dv 0)) (d_and (d_not (isi_bool T.b_isinstance T.b_bool (dv 0))) (d_one (d_eq (dv 0) (dv 1))))))))))) law__law_is_kind

abbrev s__law_same : Stmt := top 23
theorem sc__law_same : FnScope N__law_same ["told", "due"] (defScope s__law_same) := ⟨rfl, rfl, rfl, by decide +kernel, rfl, by decide +kernel, by decide +kernel⟩
theorem ok__law_same {f : Addr} {fd : FuncData} (F : Fun K "_law_same" "_law_same" s__law_same f fd) (T : Txt K mg) (F__law_is_kind : Fd P w K mg base "_law_is_kind" 1 ["told", "due"] wf__law_is_kind) : FnOk P w K mg base CX0 2 f fd ["told", "due"] (spW K wf__law_same) :=
  fd_okF (wb := W__law_same) F sc__law_same len__law_same (fun cdv A outer s H E hr => (s_cons (s_asg (d_lstM (a_cons (d_tup (a_cons (dv 0) (a_cons (dv 1) a_nil))) a_nil)) (g_name 2 sc__law_same.nd))
  (s_cons (s_while PassesOwn.never (tc_gt (d_len T.b_len (dv 2)) d_int)
  (s_cons (s_asg (d_pop (dv 2)) (g_tup rfl (gs_cons (g_name 3 sc__law_same.nd) (gs_cons (g_name 4 sc__law_same.nd) gs_nil))))
  (s_cons (s_asg (d_ifE (t_val (isi_own T.b_isinstance T.k_Answer (dv 3))) (d_tup (a_cons d_str (a_cons d_never (a_cons d_never (a_cons d_never a_nil))))) (dv 3)) (g_name 3 sc__law_same.nd))
  (s_one (s_if (t_val (isi_tuple T.b_isinstance T.b_tuple (dv 4)))
  (s_cons (s_if (t_w (t_or (t_not (t_val (isi_tuple T.b_isinstance T.b_tuple (dv 3)))) (t_or1 (tc_ne (d_len T.b_len (dv 3)) (d_len T.b_len (dv 4))))))
  (s_one (s_ret d_bl))
  s_nil)
  (s_one (s_asg (d_addM (d_fz (dv 2)) (d_lz rfl T.b_list T.b_zip (a_cons (dv 3) (a_cons (dv 4) a_nil)))) (g_name 2 sc__law_same.nd))))
  (s_one (s_if (t_w (t_or (t_val (isi_tuple_list_dict T.b_isinstance T.b_tuple T.b_list T.b_dict (dv 3))) (t_or1 (t_not (t_val (d_call F__law_is_kind hr (a_cons (dv 3) (a_cons (dv 4) a_nil))))))))
  (s_one (s_ret d_bl))
  s_nil)))))))
  (s_one (s_ret d_bl))))) law__law_same

abbrev s__law_all : Stmt := top 24
theorem sc__law_all : FnScope N__law_all ["pairs"] (defScope s__law_all) := ⟨rfl, rfl, rfl, by decide +kernel, rfl, by decide +kernel, by decide +kernel⟩
theorem ok__law_all {f : Addr} {fd : FuncData} (F : Fun K "_law_all" "_law_all" s__law_all f fd) (T : Txt K mg) (F__law_same : Fd P w K mg base "_law_same" 2 ["told", "due"] wf__law_same) : FnOk P w K mg base CX0 3 f fd ["pairs"] (spW K wf__law_all) :=
  fd_ok (wb := W__law_all) F sc__law_all len__law_all (fun cdv A outer s H E hr => (s_one (s_ret (d_eq (d_len T.b_len (d_lcT rfl sc__law_all.nd (i_list (dv 0)) (blkOk_by (own := [("told", 1), ("due", 2)]) (N := N__law_all) (sc := defScope s__law_all) (by decide +kernel)) (fun _ _ _ _ _ => pg_tup rfl (pgs_cons (pg_name (i := 1) sc__law_all.nd rfl (Or.inl rfl)) (pgs_cons (pg_name (i := 2) sc__law_all.nd rfl (Or.inl rfl)) pgs_nil))) (by decide) (by decide) (fun _ _ _ _ _ => ts_one (t_not (t_val (d_call F__law_same hr (a_cons (dv 1) (a_cons (dv 2) a_nil)))))) (fun _ _ _ _ _ => (dv 1)))) d_int)))) law__law_all

abbrev s__law_number_octets : Stmt := top 25
theorem sc__law_number_octets : FnScope N__law_number_octets ["number"] (defScope s__law_number_octets) := ⟨rfl, rfl, rfl, by decide +kernel, rfl, by decide +kernel, by decide +kernel⟩
theorem ok__law_number_octets {f : Addr} {fd : FuncData} (F : Fun K "_law_number_octets" "_law_number_octets" s__law_number_octets f fd) (T : Txt K mg) : FnOk P w K mg base CX0 1 f fd ["number"] (spW K wf__law_number_octets) :=
  fd_ok (wb := W__law_number_octets) F sc__law_number_octets len__law_number_octets (fun cdv A outer s H E hr => (s_cons (s_par (i := 1) (j := 2) rfl sc__law_number_octets.nd rfl rfl (by decide) rfl rfl (a_cons (d_lstM a_nil) (a_cons (dv 0) a_nil)) (by rfl))
  (s_cons (s_while PassesOwn.never (tc_gt (dv 2) d_int)
  (s_cons (s_expr (d_append (dv 1) (d_add (d_mod (d_intOf T.b_int (dv 2)) d_int) d_int)))
  (s_one (s_asg (d_div (dv 2) d_int) (g_name 2 sc__law_number_octets.nd)))))
  (s_one (s_ret (d_add (d_fz (dv 1)) (d_lst (a_cons (dv 2) a_nil)))))))) law__law_number_octets

abbrev s__law_sum : Stmt := top 26
theorem sc__law_sum : FnScope N__law_sum ["octets"] (defScope s__law_sum) := ⟨rfl, rfl, rfl, by decide +kernel, rfl, by decide +kernel, by decide +kernel⟩
theorem ok__law_sum {f : Addr} {fd : FuncData} (F : Fun K "_law_sum" "_law_sum" s__law_sum f fd) (T : Txt K mg) : FnOk P w K mg base CX0 1 f fd ["octets"] (spW K wf__law_sum) :=
  fd_ok (wb := W__law_sum) F sc__law_sum len__law_sum (fun cdv A outer s H E hr => (s_one (s_ret (d_mod (d_intOf T.b_int (d_sum rfl T.b_sum (d_lcN rfl sc__law_sum.nd (i_rng1 T.b_range (a_cons (d_len T.b_len (dv 0)) a_nil)) (blkOk_by (own := [("at", 1)]) (N := N__law_sum) (sc := defScope s__law_sum) (by decide +kernel)) (fun _ _ _ _ _ => pg_name (i := 1) sc__law_sum.nd rfl (Or.inl rfl)) (by decide) (fun _ _ _ _ _ => ts_nil) (fun _ _ _ _ _ => (d_mul (d_ix (dv 0) (dv 1)) (d_add (dv 1) d_int)))))) d_int)))) law__law_sum

abbrev s__law_framed : Stmt := top 27
theorem sc__law_framed : FnScope N__law_framed ["body"] (defScope s__law_framed) := ⟨rfl, rfl, rfl, by decide +kernel, rfl, by decide +kernel, by decide +kernel⟩
theorem ok__law_framed {f : Addr} {fd : FuncData} (F : Fun K "_law_framed" "_law_framed" s__law_framed f fd) (T : Txt K mg) (F__law_number_octets : Fd P w K mg base "_law_number_octets" 1 ["number"] wf__law_number_octets) (F__law_sum : Fd P w K mg base "_law_sum" 1 ["octets"] wf__law_sum) : FnOk P w K mg base CX0 2 f fd ["body"] (spW K wf__law_framed) :=
  fd_ok (wb := W__law_framed) F sc__law_framed len__law_framed (fun cdv A outer s H E hr => (s_cons (s_asg (d_call F__law_sum hr (a_cons (dv 0) a_nil)) (g_name 1 sc__law_framed.nd))
  (s_one (s_ret (d_add (d_add (d_call F__law_number_octets hr (a_cons (d_len T.b_len (dv 0)) a_nil)) (dv 0)) (d_lst (a_cons (d_mod (d_intOf T.b_int (dv 1)) d_int) (a_cons (d_div (dv 1) d_int) a_nil)))))))) law__law_framed

abbrev s__law_joined : Stmt := top 28
theorem sc__law_joined : FnScope N__law_joined ["rows"] (defScope s__law_joined) := ⟨rfl, rfl, rfl, by decide +kernel, rfl, by decide +kernel, by decide +kernel⟩
theorem ok__law_joined {f : Addr} {fd : FuncData} (F : Fun K "_law_joined" "_law_joined" s__law_joined f fd) (T : Txt K mg) : FnOk P w K mg base CX0 1 f fd ["rows"] (spW K wf__law_joined) :=
  fd_ok (wb := W__law_joined) F sc__law_joined len__law_joined (fun cdv A outer s H E hr => (s_cons (s_asg (d_lst a_nil) (g_name 1 sc__law_joined.nd))
  (s_cons (s_for PassesOwn.never rfl (i_list (dv 0)) (g_name 2 sc__law_joined.nd)
  (s_one (s_asg (d_add (dv 1) (dv 2)) (g_name 1 sc__law_joined.nd))))
  (s_one (s_ret (dv 1)))))) law__law_joined

abbrev s__law_octet : Stmt := top 29
theorem sc__law_octet : FnScope N__law_octet ["deal"] (defScope s__law_octet) := ⟨rfl, rfl, rfl, by decide +kernel, rfl, by decide +kernel, by decide +kernel⟩
theorem ok__law_octet {f : Addr} {fd : FuncData} (F : Fun K "_law_octet" "_law_octet" s__law_octet f fd) (T : Txt K mg) (F__law_any : Fd P w K mg base "_law_any" 1 ["deal", "bound"] wf__law_any) (F__law_of : Fd P w K mg base "_law_of" 2 ["deal", "some"] wf__law_of) : FnOk P w K mg base CX0 3 f fd ["deal"] (spW K wf__law_octet) :=
  fd_ok (wb := W__law_octet) F sc__law_octet len__law_octet (fun cdv A outer s H E hr => (s_one (s_ret (d_call F__law_of hr (a_cons (dv 0) (a_cons (d_lst (a_cons d_int (a_cons d_int (a_cons d_int (a_cons d_int (a_cons d_int (a_cons (d_call F__law_any hr (a_cons (dv 0) (a_cons d_int a_nil))) (a_cons (d_call F__law_any hr (a_cons (dv 0) (a_cons d_int a_nil))) (a_cons (d_call F__law_any hr (a_cons (dv 0) (a_cons d_int a_nil))) a_nil))))))))) a_nil)))))) law__law_octet

abbrev s__law_some_body : Stmt := top 32
theorem sc__law_some_body : FnScope N__law_some_body ["deal"] (defScope s__law_some_body) := ⟨rfl, rfl, rfl, by decide +kernel, rfl, by decide +kernel, by decide +kernel⟩
theorem ok__law_some_body {f : Addr} {fd : FuncData} (F : Fun K "_law_some_body" "_law_some_body" s__law_some_body f fd) (T : Txt K mg) (F__law_of : Fd P w K mg base "_law_of" 2 ["deal", "some"] wf__law_of) (F__law_octet : Fd P w K mg base "_law_octet" 3 ["deal"] wf__law_octet) : FnOk P w K mg base CX0 4 f fd ["deal"] (spW K wf__law_some_body) :=
  fd_ok (wb := W__law_some_body) F sc__law_some_body len__law_some_body (fun cdv A outer s H E hr => (s_cons (s_asg (d_call F__law_of hr (a_cons (dv 0) (a_cons (d_lst (a_cons d_int (a_cons d_int (a_cons d_int (a_cons d_int (a_cons d_int (a_cons d_int (a_cons d_int (a_cons d_int (a_cons d_int (a_cons d_int a_nil))))))))))) a_nil))) (g_name 1 sc__law_some_body.nd))
  (s_cons (s_if (tc_gt (dv 1) d_int)
  (s_cons (s_asg (d_tup (a_cons (d_call F__law_octet hr (a_cons (dv 0) a_nil)) (a_cons (d_call F__law_of hr (a_cons (dv 0) (a_cons (d_lst (a_cons d_int (a_cons d_int (a_cons d_int (a_cons d_int a_nil))))) a_nil))) a_nil))) (g_tup rfl (gs_cons (g_name 2 sc__law_some_body.nd) (gs_cons (g_name 3 sc__law_some_body.nd) gs_nil))))
  (s_one (s_ret (d_lcN rfl sc__law_some_body.nd (i_rng1 T.b_range (a_cons (dv 1) a_nil)) (blkOk_by (own := [("turn", 4)]) (N := N__law_some_body) (sc := defScope s__law_some_body) (by decide +kernel)) (fun _ _ _ _ _ => pg_name (i := 4) sc__law_some_body.nd rfl (Or.inl rfl)) (by decide) (fun _ _ _ _ _ => ts_nil) (fun _ _ _ _ _ => (d_mod (d_intOf T.b_int (d_add (dv 2) (d_mul (dv 4) (dv 3)))) d_int))))))
  s_nil)
  (s_one (s_ret (d_lcN rfl sc__law_some_body.nd (i_rng1 T.b_range (a_cons (dv 1) a_nil)) (blkOk_by (own := [("turn", 4)]) (N := N__law_some_body) (sc := defScope s__law_some_body) (by decide +kernel)) (fun _ _ _ _ _ => pg_name (i := 4) sc__law_some_body.nd rfl (Or.inl rfl)) (by decide) (fun _ _ _ _ _ => ts_nil) (fun _ _ _ _ _ => (d_call F__law_octet hr (a_cons (dv 0) a_nil))))))))) law__law_some_body

abbrev s__law_bent : Stmt := top 33
theorem sc__law_bent : FnScope N__law_bent ["deal", "octets"] (defScope s__law_bent) := ⟨rfl, rfl, rfl, by decide +kernel, rfl, by decide +kernel, by decide +kernel⟩
theorem ok__law_bent {f : Addr} {fd : FuncData} (F : Fun K "_law_bent" "_law_bent" s__law_bent f fd) (T : Txt K mg) (F__law_any : Fd P w K mg base "_law_any" 1 ["deal", "bound"] wf__law_any) (F__law_of : Fd P w K mg base "_law_of" 2 ["deal", "some"] wf__law_of) (F__law_octet : Fd P w K mg base "_law_octet" 3 ["deal"] wf__law_octet) : FnOk P w K mg base CX0 4 f fd ["deal", "octets"] (spW K wf__law_bent) :=
  fd_ok (wb := W__law_bent) F sc__law_bent len__law_bent (fun cdv A outer s H E hr => (s_cons (s_if (tc_eq (d_len T.b_len (dv 1)) d_int)
  (s_one (s_ret (dv 1)))
  s_nil)
  (s_cons (s_par (i := 2) (j := 3) rfl sc__law_bent.nd rfl rfl (by decide) rfl rfl (a_cons (d_call F__law_any hr (a_cons (dv 0) (a_cons (d_len T.b_len (dv 1)) a_nil))) (a_cons (d_call F__law_any hr (a_cons (dv 0) (a_cons d_int a_nil))) a_nil)) (by rfl))
  (s_cons (s_if (tc_eq (dv 3) d_int)
  (s_one (s_ret (d_add (d_sl (dv 1) o_no (o_some (dv 2))) (d_sl (dv 1) (o_some (d_add (dv 2) d_int)) o_no))))
  s_nil)
  (s_cons (s_if (tc_eq (dv 3) d_int)
  (s_one (s_ret (d_add (d_add (d_sl (dv 1) o_no (o_some (dv 2))) (d_lst (a_cons (d_call F__law_octet hr (a_cons (dv 0) a_nil)) a_nil))) (d_sl (dv 1) (o_some (dv 2)) o_no))))
  s_nil)
  (s_one (s_ret (d_add (d_add (d_sl (dv 1) o_no (o_some (dv 2))) (d_lst (a_cons (d_mod (d_intOf T.b_int (d_add (d_ix (dv 1) (dv 2)) (d_call F__law_of hr (a_cons (dv 0) (a_cons (d_lst (a_cons d_int (a_cons d_int (a_cons d_int (a_cons (d_add d_int (d_call F__law_any hr (a_cons (dv 0) (a_cons d_int a_nil)))) a_nil))))) a_nil))))) d_int) a_nil))) (d_sl (dv 1) (o_some (d_add (dv 2) d_int)) o_no))))))))) law__law_bent

abbrev s__law_number_at : Stmt := top 30
theorem sc__law_number_at : FnScope N__law_number_at ["octets", "at"] (defScope s__law_number_at) := ⟨rfl, rfl, rfl, by decide +kernel, rfl, by decide +kernel, by decide +kernel⟩
theorem ok__law_number_at {f : Addr} {fd : FuncData} (F : Fun K "_law_number_at" "_law_number_at" s__law_number_at f fd) (T : Txt K mg) : FnOk P w K mg base CX0 1 f fd ["octets", "at"] (spW K wf__law_number_at) :=
  fd_ok (wb := W__law_number_at) F sc__law_number_at len__law_number_at (fun cdv A outer s H E hr => (s_cons (s_par3 (i := 2) (j := 3) (l := 4) rfl sc__law_number_at.nd rfl rfl rfl (by decide) (by decide) (by decide) rfl rfl rfl (a_cons d_int (a_cons d_int (a_cons (dv 1) a_nil))) (by rfl))
  (s_cons (s_if (tc_lt (dv 1) d_int)
  (s_one (s_ret d_non))
  s_nil)
  (s_cons (s_while PassesOwn.never (t_w (t_and (tc_lt (dv 4) (d_len T.b_len (dv 0))) (t_and1 (tc_gt (d_ix (dv 0) (dv 4)) d_int))))
  (s_one (s_par3 (i := 2) (j := 3) (l := 4) rfl sc__law_number_at.nd rfl rfl rfl (by decide) (by decide) (by decide) rfl rfl rfl (a_cons (d_add (dv 2) (d_mul (dv 3) (d_sub (d_ix (dv 0) (dv 4)) d_int))) (a_cons (d_mul (dv 3) d_int) (a_cons (d_add (dv 4) d_int) a_nil))) (by rfl))))
  (s_cons (s_if (t_w (t_or (tc_ge (dv 4) (d_len T.b_len (dv 0))) (t_or1 (t_w (t_and (tc_gt (dv 4) (dv 1)) (t_and1 (tc_eq (d_ix (dv 0) (dv 4)) d_int)))))))
  (s_one (s_ret d_non))
  s_nil)
  (s_one (s_ret (d_tup (a_cons (d_add (dv 2) (d_mul (dv 3) (d_ix (dv 0) (dv 4)))) (a_cons (d_add (dv 4) d_int) a_nil)))))))))) law__law_number_at

abbrev s__law_frames_in : Stmt := top 31
theorem sc__law_frames_in : FnScope N__law_frames_in ["octets"] (defScope s__law_frames_in) := ⟨rfl, rfl, rfl, by decide +kernel, rfl, by decide +kernel, by decide +kernel⟩
theorem ok__law_frames_in {f : Addr} {fd : FuncData} (F : Fun K "_law_frames_in" "_law_frames_in" s__law_frames_in f fd) (T : Txt K mg) (F__law_sum : Fd P w K mg base "_law_sum" 1 ["octets"] wf__law_sum) (F__law_number_at : Fd P w K mg base "_law_number_at" 1 ["octets", "at"] wf__law_number_at) : FnOk P w K mg base CX0 2 f fd ["octets"] (spW K wf__law_frames_in) :=
  fd_ok (wb := W__law_frames_in) F sc__law_frames_in len__law_frames_in (fun cdv A outer s H E hr => (s_cons (s_par (i := 1) (j := 2) rfl sc__law_frames_in.nd rfl rfl (by decide) rfl rfl (a_cons (d_lst a_nil) (a_cons d_int a_nil)) (by rfl))
  (s_cons (s_for PassesOwn.never rfl (i_rng1 T.b_range (a_cons (d_add (d_len T.b_len (dv 0)) d_int) a_nil)) (g_name 3 sc__law_frames_in.nd)
  (s_cons (s_asg (d_call F__law_number_at hr (a_cons (dv 0) (a_cons (dv 2) a_nil))) (g_name 4 sc__law_frames_in.nd))
  (s_cons (s_if (t_w (t_or (tc_isN (dv 4)) (t_or1 (tc_gt (d_add (d_ix (dv 4) d_int) d_int) (d_sub (d_len T.b_len (dv 0)) (d_ix (dv 4) d_int))))))
  (s_one (s_ret (d_tup (a_cons (dv 1) (a_cons (dv 2) a_nil)))))
  s_nil)
  (s_cons (s_par (i := 5) (j := 6) rfl sc__law_frames_in.nd rfl rfl (by decide) rfl rfl (a_cons (d_sl (dv 0) (o_some (d_ix (dv 4) d_int)) (o_some (d_add (d_ix (dv 4) d_int) (d_ix (dv 4) d_int)))) (a_cons (d_add (d_ix (dv 4) d_int) (d_ix (dv 4) d_int)) a_nil)) (by rfl))
  (s_cons (s_asg (d_call F__law_sum hr (a_cons (dv 5) a_nil)) (g_name 7 sc__law_frames_in.nd))
  (s_cons (s_if (t_w (t_or (tc_ne (d_ix (dv 0) (dv 6)) (d_mod (d_intOf T.b_int (dv 7)) d_int)) (t_or1 (tc_ne (d_ix (dv 0) (d_add (dv 6) d_int)) (d_div (dv 7) d_int)))))
  (s_one (s_ret (d_tup (a_cons (dv 1) (a_cons (dv 2) a_nil)))))
  s_nil)
  (s_one (s_par (i := 1) (j := 2) rfl sc__law_frames_in.nd rfl rfl (by decide) rfl rfl (a_cons (d_add (dv 1) (d_lst (a_cons (dv 5) a_nil))) (a_cons (d_add (dv 6) d_int) a_nil)) (by rfl)))))))))
  (s_one (s_ret (d_tup (a_cons (dv 1) (a_cons (dv 2) a_nil)))))))) law__law_frames_in

abbrev s__law_due : Stmt := top 34
theorem sc__law_due : FnScope N__law_due ["octets"] (defScope s__law_due) := ⟨rfl, rfl, rfl, by decide +kernel, rfl, by decide +kernel, by decide +kernel⟩
theorem ok__law_due {f : Addr} {fd : FuncData} (F : Fun K "_law_due" "_law_due" s__law_due f fd) (T : Txt K mg) (F__law_frames_in : Fd P w K mg base "_law_frames_in" 2 ["octets"] wf__law_frames_in) : FnOk P w K mg base CX0 3 f fd ["octets"] (spW K wf__law_due) :=
  fd_ok (wb := W__law_due) F sc__law_due len__law_due (fun cdv A outer s H E hr => (s_cons (s_asg (d_call F__law_frames_in hr (a_cons (dv 0) a_nil)) (g_tup rfl (gs_cons (g_name 1 sc__law_due.nd) (gs_cons (g_name 2 sc__law_due.nd) gs_nil))))
  (s_one (s_ret (d_tup (a_cons (d_tuple T.b_tuple (d_lcN rfl sc__law_due.nd (i_list (dv 1)) (blkOk_by (own := [("body", 3)]) (N := N__law_due) (sc := defScope s__law_due) (by decide +kernel)) (fun _ _ _ _ _ => pg_name (i := 3) sc__law_due.nd rfl (Or.inl rfl)) (by decide) (fun _ _ _ _ _ => ts_nil) (fun _ _ _ _ _ => (d_tuple T.b_tuple (dv 3))))) (a_cons (dv 2) a_nil))))))) law__law_due

abbrev s_law : Stmt := top 35
theorem sc_law : FnScope N_law ["script"] (defScope s_law) := ⟨rfl, rfl, rfl, by decide +kernel, rfl, by decide +kernel, by decide +kernel⟩
theorem ok_law {f : Addr} {fd : FuncData} (F : Fun K "law" "law" s_law f fd) (T : Txt K mg) (F_frame : Fd P w K mg base "frame" 3 ["body"] wf_frame) (F_frames : Fd P w K mg base "frames" 4 ["octets"] wf_frames) (F__law_deal : Fd P w K mg base "_law_deal" 1 ["script", "salt"] wf__law_deal) (F__law_any : Fd P w K mg base "_law_any" 1 ["deal", "bound"] wf__law_any) (F__law_of : Fd P w K mg base "_law_of" 2 ["deal", "some"] wf__law_of) (F__law_all : Fd P w K mg base "_law_all" 3 ["pairs"] wf__law_all) (F__law_number_octets : Fd P w K mg base "_law_number_octets" 1 ["number"] wf__law_number_octets) (F__law_framed : Fd P w K mg base "_law_framed" 2 ["body"] wf__law_framed) (F__law_joined : Fd P w K mg base "_law_joined" 1 ["rows"] wf__law_joined) (F__law_octet : Fd P w K mg base "_law_octet" 3 ["deal"] wf__law_octet) (F__law_some_body : Fd P w K mg base "_law_some_body" 4 ["deal"] wf__law_some_body) (F__law_bent : Fd P w K mg base "_law_bent" 4 ["deal", "octets"] wf__law_bent) (F__law_due : Fd P w K mg base "_law_due" 3 ["octets"] wf__law_due) : FnOk P w K mg base CX0 5 f fd ["script"] (spW K wf_law) :=
  fd_okF (wb := W_law) F sc_law len_law (fun cdv A outer s H E hr => (s_cons (s_asg (d_call F__law_deal hr (a_cons (dv 0) (a_cons d_int a_nil))) (g_name 1 sc_law.nd))
  (s_cons (s_par (i := 2) (j := 3) rfl sc_law.nd rfl rfl (by decide) rfl rfl (a_cons (d_lstM a_nil) (a_cons (d_lstM a_nil) a_nil)) (by rfl))
  (s_cons (s_for PassesOwn.never rfl (i_rng1 T.b_range (a_cons (d_call F__law_of hr (a_cons (dv 1) (a_cons (d_lst (a_cons d_int (a_cons d_int (a_cons d_int (a_cons d_int a_nil))))) a_nil))) a_nil)) (g_name 4 sc_law.nd)
  (s_cons (s_asg (d_call F__law_some_body hr (a_cons (dv 1) a_nil)) (g_name 5 sc_law.nd))
  (s_cons (s_asg (d_call F__law_framed hr (a_cons (dv 5) a_nil)) (g_name 6 sc_law.nd))
  (s_cons (s_expr (d_append (dv 2) (d_tup (a_cons (d_ifE (tc_lt (dv 4) d_int) (d_call F_frame hr (a_cons (d_tuple T.b_tuple (dv 5)) a_nil)) (d_callK F_frame hr (k_cons (d_tuple T.b_tuple (dv 5)) k_nil))) (a_cons (d_tuple T.b_tuple (dv 6)) a_nil)))))
  (s_one (s_expr (d_append (dv 3) (d_tup (a_cons (dv 5) (a_cons (dv 6) a_nil))))))))))
  (s_frz 3
  (s_cons (s_asg (d_call F__law_joined hr (a_cons (d_lcT rfl sc_law.nd (i_list (dv 3)) (blkOk_by (own := [("body", 5), ("row", 6)]) (N := N_law) (sc := defScope s_law) (by decide +kernel)) (fun _ _ _ _ _ => pg_tup rfl (pgs_cons (pg_name (i := 5) sc_law.nd rfl (Or.inl rfl)) (pgs_cons (pg_name (i := 6) sc_law.nd rfl (Or.inl rfl)) pgs_nil))) (by decide) (by decide) (fun _ _ _ _ _ => ts_nil) (fun _ _ _ _ _ => (dv 6))) a_nil)) (g_name 7 sc_law.nd))
  (s_cons (s_expr (d_append (dv 2) (d_tup (a_cons (d_call F_frames hr (a_cons (d_tuple T.b_tuple (dv 7)) a_nil)) (a_cons (d_tup (a_cons (d_tuple T.b_tuple (d_lcT rfl sc_law.nd (i_list (dv 3)) (blkOk_by (own := [("body", 5), ("row", 6)]) (N := N_law) (sc := defScope s_law) (by decide +kernel)) (fun _ _ _ _ _ => pg_tup rfl (pgs_cons (pg_name (i := 5) sc_law.nd rfl (Or.inl rfl)) (pgs_cons (pg_name (i := 6) sc_law.nd rfl (Or.inl rfl)) pgs_nil))) (by decide) (by decide) (fun _ _ _ _ _ => ts_nil) (fun _ _ _ _ _ => (d_tuple T.b_tuple (dv 5))))) (a_cons (d_len T.b_len (dv 7)) a_nil))) a_nil)))))
  (s_cons (s_for PassesOwn.never rfl (i_rng1 T.b_range (a_cons d_int a_nil)) (g_name 4 sc_law.nd)
  (s_cons (s_asg (d_call F__law_any hr (a_cons (dv 1) (a_cons (d_len T.b_len (dv 3)) a_nil))) (g_name 8 sc_law.nd))
  (s_cons (s_asg (d_call F__law_joined hr (a_cons (d_lcT rfl sc_law.nd (i_list (d_sl (dv 3) o_no (o_some (dv 8)))) (blkOk_by (own := [("body", 5), ("row", 6)]) (N := N_law) (sc := defScope s_law) (by decide +kernel)) (fun _ _ _ _ _ => pg_tup rfl (pgs_cons (pg_name (i := 5) sc_law.nd rfl (Or.inl rfl)) (pgs_cons (pg_name (i := 6) sc_law.nd rfl (Or.inl rfl)) pgs_nil))) (by decide) (by decide) (fun _ _ _ _ _ => ts_nil) (fun _ _ _ _ _ => (dv 6))) a_nil)) (g_name 9 sc_law.nd))
  (s_cons (s_asg (d_ix (d_ix (dv 3) (dv 8)) d_int) (g_name 10 sc_law.nd))
  (s_cons (s_asg (d_add (dv 9) (d_sl (dv 10) o_no (o_some (d_call F__law_any hr (a_cons (dv 1) (a_cons (d_len T.b_len (dv 10)) a_nil)))))) (g_name 11 sc_law.nd))
  (s_cons (s_expr (d_append (dv 2) (d_tup (a_cons (d_callK F_frames hr (k_cons (d_tuple T.b_tuple (dv 11)) k_nil)) (a_cons (d_tup (a_cons (d_tuple T.b_tuple (d_lcT rfl sc_law.nd (i_list (d_sl (dv 3) o_no (o_some (dv 8)))) (blkOk_by (own := [("body", 5), ("row", 6)]) (N := N_law) (sc := defScope s_law) (by decide +kernel)) (fun _ _ _ _ _ => pg_tup rfl (pgs_cons (pg_name (i := 5) sc_law.nd rfl (Or.inl rfl)) (pgs_cons (pg_name (i := 6) sc_law.nd rfl (Or.inl rfl)) pgs_nil))) (by decide) (by decide) (fun _ _ _ _ _ => ts_nil) (fun _ _ _ _ _ => (d_tuple T.b_tuple (dv 5))))) (a_cons (d_len T.b_len (dv 9)) a_nil))) a_nil)))))
  (s_cons (s_expr (d_append (dv 2) (d_tup (a_cons (d_call F_frames hr (a_cons (d_tuple T.b_tuple (d_add (dv 9) (dv 10))) a_nil)) (a_cons (d_tup (a_cons (d_tuple T.b_tuple (d_lcT rfl sc_law.nd (i_list (d_sl (dv 3) o_no (o_some (d_add (dv 8) d_int)))) (blkOk_by (own := [("body", 5), ("row", 6)]) (N := N_law) (sc := defScope s_law) (by decide +kernel)) (fun _ _ _ _ _ => pg_tup rfl (pgs_cons (pg_name (i := 5) sc_law.nd rfl (Or.inl rfl)) (pgs_cons (pg_name (i := 6) sc_law.nd rfl (Or.inl rfl)) pgs_nil))) (by decide) (by decide) (fun _ _ _ _ _ => ts_nil) (fun _ _ _ _ _ => (d_tuple T.b_tuple (dv 5))))) (a_cons (d_len T.b_len (d_add (dv 9) (dv 10))) a_nil))) a_nil)))))
  (s_cons (s_asg (d_call F__law_bent hr (a_cons (dv 1) (a_cons (dv 7) a_nil))) (g_name 12 sc_law.nd))
  (s_cons (s_expr (d_append (dv 2) (d_tup (a_cons (d_call F_frames hr (a_cons (d_tuple T.b_tuple (dv 12)) a_nil)) (a_cons (d_call F__law_due hr (a_cons (dv 12) a_nil)) a_nil)))))
  (s_cons (s_asg (d_call F__law_of hr (a_cons (dv 1) (a_cons (d_lst (a_cons (d_lst (a_cons d_int (a_cons d_int (a_cons d_int a_nil)))) (a_cons (d_lst (a_cons d_int (a_cons d_int (a_cons d_int (a_cons d_int a_nil))))) (a_cons (d_lst (a_cons d_int (a_cons d_int (a_cons d_int a_nil)))) (a_cons (d_lst (a_cons d_int (a_cons d_int (a_cons d_int (a_cons d_int a_nil))))) (a_cons (d_lst (a_cons d_int (a_cons d_int (a_cons d_int (a_cons d_int a_nil))))) (a_cons (d_lst (a_cons d_int a_nil)) (a_cons (d_lst (a_cons d_int (a_cons d_int (a_cons d_int (a_cons d_int (a_cons d_int a_nil)))))) (a_cons (d_lst (a_cons d_int (a_cons d_int (a_cons d_int (a_cons d_int (a_cons d_int a_nil)))))) a_nil))))))))) a_nil))) (g_name 13 sc_law.nd))
  (s_cons (s_asg (d_add (d_add (d_add (dv 9) (dv 13)) (dv 10)) (d_lcN rfl sc_law.nd (i_rng1 T.b_range (a_cons (d_call F__law_any hr (a_cons (dv 1) (a_cons d_int a_nil))) a_nil)) (blkOk_by (own := [("number", 17)]) (N := N_law) (sc := defScope s_law) (by decide +kernel)) (fun _ _ _ _ _ => pg_name (i := 17) sc_law.nd rfl (Or.inl rfl)) (by decide) (fun _ _ _ _ _ => ts_nil) (fun _ _ _ _ _ => (d_call F__law_octet hr (a_cons (dv 1) a_nil))))) (g_name 14 sc_law.nd))
  (s_one (s_expr (d_append (dv 2) (d_tup (a_cons (d_call F_frames hr (a_cons (d_tuple T.b_tuple (dv 14)) a_nil)) (a_cons (d_call F__law_due hr (a_cons (dv 14) a_nil)) a_nil)))))))))))))))))
  (s_cons (s_if (tc_eq (d_call F__law_any hr (a_cons (dv 1) (a_cons d_int a_nil))) d_int)
  (s_cons (s_par (i := 8) (j := 15) rfl sc_law.nd rfl rfl (by decide) rfl rfl (a_cons (d_call F__law_of hr (a_cons (dv 1) (a_cons (d_lst (a_cons d_int (a_cons d_int (a_cons d_int a_nil)))) a_nil))) (a_cons (d_call F__law_octet hr (a_cons (dv 1) a_nil)) a_nil)) (by rfl))
  (s_cons (s_asg (d_mod (d_intOf T.b_int (d_mul (dv 15) (d_div (d_mul (dv 8) (d_add (dv 8) d_int)) d_int))) d_int) (g_name 16 sc_law.nd))
  (s_cons (s_asg (d_add (d_add (d_call F__law_number_octets hr (a_cons (dv 8) a_nil)) (d_mul (d_lst (a_cons (dv 15) a_nil)) (dv 8))) (d_lst (a_cons (d_mod (d_intOf T.b_int (dv 16)) d_int) (a_cons (d_div (dv 16) d_int) a_nil)))) (g_name 6 sc_law.nd))
  (s_cons (s_expr (d_append (dv 2) (d_tup (a_cons (d_call F_frame hr (a_cons (d_mulM (d_tup (a_cons (dv 15) a_nil)) (dv 8)) a_nil)) (a_cons (d_tuple T.b_tuple (dv 6)) a_nil)))))
  (s_one (s_expr (d_append (dv 2) (d_tup (a_cons (d_call F_frames hr (a_cons (d_tuple T.b_tuple (d_add (dv 6) (d_lst (a_cons d_int (a_cons d_int a_nil))))) a_nil)) (a_cons (d_tup (a_cons (d_tup (a_cons (d_mulM (d_tup (a_cons (dv 15) a_nil)) (dv 8)) a_nil)) (a_cons (d_len T.b_len (dv 6)) a_nil))) a_nil))))))))))
  s_nil)
  (s_cons (s_expr (d_append (dv 2) (d_tup (a_cons (d_call F_frames hr (a_cons (d_tup a_nil) a_nil)) (a_cons (d_tup (a_cons (d_tup a_nil) (a_cons d_int a_nil))) a_nil)))))
  (s_one (s_ret (d_call F__law_all hr (a_cons (d_fz (dv 2)) a_nil)))))))))))))) law_law

end
section
variable {P : Program} {w : World} {K : PySem.W.Frag} {mg : Str → Option Value} {base h : Heap}
theorem mk_octets_of_number (X : K.In h) (G : h.Ns mainGlobals mg) (T : Txt K mg) {f : Addr} {od an : Option Addr} {sl : Array (Option Value)} {oc kV dc pm cd ct : Value} (a : PySem.W.nsIn K mainGlobals "octets_of_number" = some (some (.ref f))) (l : K.lookup f = some ⟨oc, od, .func (PySem.W.fnOf "octets_of_number" "octets_of_number" (defArgs s_octets_of_number) (defBody s_octets_of_number) (defScope s_octets_of_number) .none kV dc pm an cd ct), sl⟩) (c : PySem.W.codeIn K cd "octets_of_number" = true) (k : PySem.W.keepIn K (.ref f) = true) : Fd P w K mg base "octets_of_number" 1 ["number"] wf_octets_of_number :=
  have F := fun_mk (st := s_octets_of_number) l c k
  ⟨f, _, ok_octets_of_number F T, PySem.W.mg_of X G a, k, F.binds (ps := ["number"]) (fun _ _ _ _ _ _ us hl => match us, hl with | [_], _ => rfl), fun _ us hl => match us, hl with | [_], _ => .of_eq rfl⟩
theorem mk_number_octets (X : K.In h) (G : h.Ns mainGlobals mg) (T : Txt K mg) {f : Addr} {od an : Option Addr} {sl : Array (Option Value)} {oc kV dc pm cd ct : Value} (a : PySem.W.nsIn K mainGlobals "number_octets" = some (some (.ref f))) (l : K.lookup f = some ⟨oc, od, .func (PySem.W.fnOf "number_octets" "number_octets" (defArgs s_number_octets) (defBody s_number_octets) (defScope s_number_octets) .none kV dc pm an cd ct), sl⟩) (c : PySem.W.codeIn K cd "number_octets" = true) (k : PySem.W.keepIn K (.ref f) = true) (F_octets_of_number : Fd P w K mg base "octets_of_number" 1 ["number"] wf_octets_of_number) : Fd P w K mg base "number_octets" 2 ["number"] wf_number_octets :=
  have F := fun_mk (st := s_number_octets) l c k
  ⟨f, _, ok_number_octets F T F_octets_of_number, PySem.W.mg_of X G a, k, F.binds (ps := ["number"]) (fun _ _ _ _ _ _ us hl => match us, hl with | [_], _ => rfl), fun _ us hl => match us, hl with | [_], _ => .of_eq rfl⟩
theorem mk_sum_of_octets (X : K.In h) (G : h.Ns mainGlobals mg) (T : Txt K mg) {f : Addr} {od an : Option Addr} {sl : Array (Option Value)} {oc kV dc pm cd ct : Value} (a : PySem.W.nsIn K mainGlobals "sum_of_octets" = some (some (.ref f))) (l : K.lookup f = some ⟨oc, od, .func (PySem.W.fnOf "sum_of_octets" "sum_of_octets" (defArgs s_sum_of_octets) (defBody s_sum_of_octets) (defScope s_sum_of_octets) .none kV dc pm an cd ct), sl⟩) (c : PySem.W.codeIn K cd "sum_of_octets" = true) (k : PySem.W.keepIn K (.ref f) = true) : Fd P w K mg base "sum_of_octets" 1 ["octets"] wf_sum_of_octets :=
  have F := fun_mk (st := s_sum_of_octets) l c k
  ⟨f, _, ok_sum_of_octets F T, PySem.W.mg_of X G a, k, F.binds (ps := ["octets"]) (fun _ _ _ _ _ _ us hl => match us, hl with | [_], _ => rfl), fun _ us hl => match us, hl with | [_], _ => .of_eq rfl⟩
theorem mk_sum_pair (X : K.In h) (G : h.Ns mainGlobals mg) (T : Txt K mg) {f : Addr} {od an : Option Addr} {sl : Array (Option Value)} {oc kV dc pm cd ct : Value} (a : PySem.W.nsIn K mainGlobals "sum_pair" = some (some (.ref f))) (l : K.lookup f = some ⟨oc, od, .func (PySem.W.fnOf "sum_pair" "sum_pair" (defArgs s_sum_pair) (defBody s_sum_pair) (defScope s_sum_pair) .none kV dc pm an cd ct), sl⟩) (c : PySem.W.codeIn K cd "sum_pair" = true) (k : PySem.W.keepIn K (.ref f) = true) (F_sum_of_octets : Fd P w K mg base "sum_of_octets" 1 ["octets"] wf_sum_of_octets) : Fd P w K mg base "sum_pair" 2 ["body"] wf_sum_pair :=
  have F := fun_mk (st := s_sum_pair) l c k
  ⟨f, _, ok_sum_pair F T F_sum_of_octets, PySem.W.mg_of X G a, k, F.binds (ps := ["body"]) (fun _ _ _ _ _ _ us hl => match us, hl with | [_], _ => rfl), fun _ us hl => match us, hl with | [_], _ => .of_eq rfl⟩
theorem mk_frame (X : K.In h) (G : h.Ns mainGlobals mg) (T : Txt K mg) {f : Addr} {od an : Option Addr} {sl : Array (Option Value)} {oc kV dc pm cd ct : Value} (a : PySem.W.nsIn K mainGlobals "frame" = some (some (.ref f))) (l : K.lookup f = some ⟨oc, od, .func (PySem.W.fnOf "frame" "frame" (defArgs s_frame) (defBody s_frame) (defScope s_frame) .none kV dc pm an cd ct), sl⟩) (c : PySem.W.codeIn K cd "frame" = true) (k : PySem.W.keepIn K (.ref f) = true) (F_number_octets : Fd P w K mg base "number_octets" 2 ["number"] wf_number_octets) (F_sum_pair : Fd P w K mg base "sum_pair" 2 ["body"] wf_sum_pair) : Fd P w K mg base "frame" 3 ["body"] wf_frame :=
  have F := fun_mk (st := s_frame) l c k
  ⟨f, _, ok_frame F T F_number_octets F_sum_pair, PySem.W.mg_of X G a, k, F.binds (ps := ["body"]) (fun _ _ _ _ _ _ us hl => match us, hl with | [_], _ => rfl), fun _ us hl => match us, hl with | [_], _ => .of_eq rfl⟩
theorem mk_number_of (X : K.In h) (G : h.Ns mainGlobals mg) (T : Txt K mg) {f : Addr} {od an : Option Addr} {sl : Array (Option Value)} {oc kV dc pm cd ct : Value} (a : PySem.W.nsIn K mainGlobals "number_of" = some (some (.ref f))) (l : K.lookup f = some ⟨oc, od, .func (PySem.W.fnOf "number_of" "number_of" (defArgs s_number_of) (defBody s_number_of) (defScope s_number_of) .none kV dc pm an cd ct), sl⟩) (c : PySem.W.codeIn K cd "number_of" = true) (k : PySem.W.keepIn K (.ref f) = true) : Fd P w K mg base "number_of" 1 ["figures"] wf_number_of :=
  have F := fun_mk (st := s_number_of) l c k
  ⟨f, _, ok_number_of F T, PySem.W.mg_of X G a, k, F.binds (ps := ["figures"]) (fun _ _ _ _ _ _ us hl => match us, hl with | [_], _ => rfl), fun _ us hl => match us, hl with | [_], _ => .of_eq rfl⟩
theorem mk_behind_number (X : K.In h) (G : h.Ns mainGlobals mg) (T : Txt K mg) {f : Addr} {od an : Option Addr} {sl : Array (Option Value)} {oc kV dc pm cd ct : Value} (a : PySem.W.nsIn K mainGlobals "behind_number" = some (some (.ref f))) (l : K.lookup f = some ⟨oc, od, .func (PySem.W.fnOf "behind_number" "behind_number" (defArgs s_behind_number) (defBody s_behind_number) (defScope s_behind_number) .none kV dc pm an cd ct), sl⟩) (c : PySem.W.codeIn K cd "behind_number" = true) (k : PySem.W.keepIn K (.ref f) = true) : Fd P w K mg base "behind_number" 1 ["octets", "at"] wf_behind_number :=
  have F := fun_mk (st := s_behind_number) l c k
  ⟨f, _, ok_behind_number F T, PySem.W.mg_of X G a, k, F.binds (ps := ["octets", "at"]) (fun _ _ _ _ _ _ us hl => match us, hl with | [_, _], _ => rfl), fun _ us hl => match us, hl with | [_, _], _ => .of_eq rfl⟩
theorem mk_number_in (X : K.In h) (G : h.Ns mainGlobals mg) (T : Txt K mg) {f : Addr} {od an : Option Addr} {sl : Array (Option Value)} {oc kV dc pm cd ct : Value} (a : PySem.W.nsIn K mainGlobals "number_in" = some (some (.ref f))) (l : K.lookup f = some ⟨oc, od, .func (PySem.W.fnOf "number_in" "number_in" (defArgs s_number_in) (defBody s_number_in) (defScope s_number_in) .none kV dc pm an cd ct), sl⟩) (c : PySem.W.codeIn K cd "number_in" = true) (k : PySem.W.keepIn K (.ref f) = true) (F_number_of : Fd P w K mg base "number_of" 1 ["figures"] wf_number_of) (F_behind_number : Fd P w K mg base "behind_number" 1 ["octets", "at"] wf_behind_number) : Fd P w K mg base "number_in" 2 ["octets", "at"] wf_number_in :=
  have F := fun_mk (st := s_number_in) l c k
  ⟨f, _, ok_number_in F T F_number_of F_behind_number, PySem.W.mg_of X G a, k, F.binds (ps := ["octets", "at"]) (fun _ _ _ _ _ _ us hl => match us, hl with | [_, _], _ => rfl), fun _ us hl => match us, hl with | [_, _], _ => .of_eq rfl⟩
theorem mk_frame_at (X : K.In h) (G : h.Ns mainGlobals mg) (T : Txt K mg) {f : Addr} {od an : Option Addr} {sl : Array (Option Value)} {oc kV dc pm cd ct : Value} (a : PySem.W.nsIn K mainGlobals "frame_at" = some (some (.ref f))) (l : K.lookup f = some ⟨oc, od, .func (PySem.W.fnOf "frame_at" "frame_at" (defArgs s_frame_at) (defBody s_frame_at) (defScope s_frame_at) .none kV dc pm an cd ct), sl⟩) (c : PySem.W.codeIn K cd "frame_at" = true) (k : PySem.W.keepIn K (.ref f) = true) (F_number_in : Fd P w K mg base "number_in" 2 ["octets", "at"] wf_number_in) (F_sum_pair : Fd P w K mg base "sum_pair" 2 ["body"] wf_sum_pair) : Fd P w K mg base "frame_at" 3 ["octets", "at"] wf_frame_at :=
  have F := fun_mk (st := s_frame_at) l c k
  ⟨f, _, ok_frame_at F T F_number_in F_sum_pair, PySem.W.mg_of X G a, k, F.binds (ps := ["octets", "at"]) (fun _ _ _ _ _ _ us hl => match us, hl with | [_, _], _ => rfl), fun _ us hl => match us, hl with | [_, _], _ => .of_eq rfl⟩
theorem mk_frames (X : K.In h) (G : h.Ns mainGlobals mg) (T : Txt K mg) {f : Addr} {od an : Option Addr} {sl : Array (Option Value)} {oc kV dc pm cd ct : Value} (a : PySem.W.nsIn K mainGlobals "frames" = some (some (.ref f))) (l : K.lookup f = some ⟨oc, od, .func (PySem.W.fnOf "frames" "frames" (defArgs s_frames) (defBody s_frames) (defScope s_frames) .none kV dc pm an cd ct), sl⟩) (c : PySem.W.codeIn K cd "frames" = true) (k : PySem.W.keepIn K (.ref f) = true) (F_frame_at : Fd P w K mg base "frame_at" 3 ["octets", "at"] wf_frame_at) : Fd P w K mg base "frames" 4 ["octets"] wf_frames :=
  have F := fun_mk (st := s_frames) l c k
  ⟨f, _, ok_frames F T F_frame_at, PySem.W.mg_of X G a, k, F.binds (ps := ["octets"]) (fun _ _ _ _ _ _ us hl => match us, hl with | [_], _ => rfl), fun _ us hl => match us, hl with | [_], _ => .of_eq rfl⟩
theorem mk__law_deal (X : K.In h) (G : h.Ns mainGlobals mg) (T : Txt K mg) {f : Addr} {od an : Option Addr} {sl : Array (Option Value)} {oc kV dc pm cd ct : Value} (a : PySem.W.nsIn K mainGlobals "_law_deal" = some (some (.ref f))) (l : K.lookup f = some ⟨oc, od, .func (PySem.W.fnOf "_law_deal" "_law_deal" (defArgs s__law_deal) (defBody s__law_deal) (defScope s__law_deal) .none kV dc pm an cd ct), sl⟩) (c : PySem.W.codeIn K cd "_law_deal" = true) (k : PySem.W.keepIn K (.ref f) = true) : Fd P w K mg base "_law_deal" 1 ["script", "salt"] wf__law_deal :=
  have F := fun_mk (st := s__law_deal) l c k
  ⟨f, _, ok__law_deal F T, PySem.W.mg_of X G a, k, F.binds (ps := ["script", "salt"]) (fun _ _ _ _ _ _ us hl => match us, hl with | [_, _], _ => rfl), fun _ us hl => match us, hl with | [_, _], _ => .of_eq rfl⟩
theorem mk__law_any (X : K.In h) (G : h.Ns mainGlobals mg) (T : Txt K mg) {f : Addr} {od an : Option Addr} {sl : Array (Option Value)} {oc kV dc pm cd ct : Value} (a : PySem.W.nsIn K mainGlobals "_law_any" = some (some (.ref f))) (l : K.lookup f = some ⟨oc, od, .func (PySem.W.fnOf "_law_any" "_law_any" (defArgs s__law_any) (defBody s__law_any) (defScope s__law_any) .none kV dc pm an cd ct), sl⟩) (c : PySem.W.codeIn K cd "_law_any" = true) (k : PySem.W.keepIn K (.ref f) = true) : Fd P w K mg base "_law_any" 1 ["deal", "bound"] wf__law_any :=
  have F := fun_mk (st := s__law_any) l c k
  ⟨f, _, ok__law_any F T, PySem.W.mg_of X G a, k, F.binds (ps := ["deal", "bound"]) (fun _ _ _ _ _ _ us hl => match us, hl with | [_, _], _ => rfl), fun _ us hl => match us, hl with | [_, _], _ => .of_eq rfl⟩
theorem mk__law_of (X : K.In h) (G : h.Ns mainGlobals mg) (T : Txt K mg) {f : Addr} {od an : Option Addr} {sl : Array (Option Value)} {oc kV dc pm cd ct : Value} (a : PySem.W.nsIn K mainGlobals "_law_of" = some (some (.ref f))) (l : K.lookup f = some ⟨oc, od, .func (PySem.W.fnOf "_law_of" "_law_of" (defArgs s__law_of) (defBody s__law_of) (defScope s__law_of) .none kV dc pm an cd ct), sl⟩) (c : PySem.W.codeIn K cd "_law_of" = true) (k : PySem.W.keepIn K (.ref f) = true) (F__law_any : Fd P w K mg base "_law_any" 1 ["deal", "bound"] wf__law_any) : Fd P w K mg base "_law_of" 2 ["deal", "some"] wf__law_of :=
  have F := fun_mk (st := s__law_of) l c k
  ⟨f, _, ok__law_of F T F__law_any, PySem.W.mg_of X G a, k, F.binds (ps := ["deal", "some"]) (fun _ _ _ _ _ _ us hl => match us, hl with | [_, _], _ => rfl), fun _ us hl => match us, hl with | [_, _], _ => .of_eq rfl⟩
theorem mk__law_is_kind (X : K.In h) (G : h.Ns mainGlobals mg) (T : Txt K mg) {f : Addr} {od an : Option Addr} {sl : Array (Option Value)} {oc kV dc pm cd ct : Value} (a : PySem.W.nsIn K mainGlobals "_law_is_kind" = some (some (.ref f))) (l : K.lookup f = some ⟨oc, od, .func (PySem.W.fnOf "_law_is_kind" "_law_is_kind" (defArgs s__law_is_kind) (defBody s__law_is_kind) (defScope s__law_is_kind) .none kV dc pm an cd ct), sl⟩) (c : PySem.W.codeIn K cd "_law_is_kind" = true) (k : PySem.W.keepIn K (.ref f) = true) : Fd P w K mg base "_law_is_kind" 1 ["told", "due"] wf__law_is_kind :=
  have F := fun_mk (st := s__law_is_kind) l c k
  ⟨f, _, ok__law_is_kind F T, PySem.W.mg_of X G a, k, F.binds (ps := ["told", "due"]) (fun _ _ _ _ _ _ us hl => match us, hl with | [_, _], _ => rfl), fun _ us hl => match us, hl with | [_, _], _ => .of_eq rfl⟩
theorem mk__law_same (X : K.In h) (G : h.Ns mainGlobals mg) (T : Txt K mg) {f : Addr} {od an : Option Addr} {sl : Array (Option Value)} {oc kV dc pm cd ct : Value} (a : PySem.W.nsIn K mainGlobals "_law_same" = some (some (.ref f))) (l : K.lookup f = some ⟨oc, od, .func (PySem.W.fnOf "_law_same" "_law_same" (defArgs s__law_same) (defBody s__law_same) (defScope s__law_same) .none kV dc pm an cd ct), sl⟩) (c : PySem.W.codeIn K cd "_law_same" = true) (k : PySem.W.keepIn K (.ref f) = true) (F__law_is_kind : Fd P w K mg base "_law_is_kind" 1 ["told", "due"] wf__law_is_kind) : Fd P w K mg base "_law_same" 2 ["told", "due"] wf__law_same :=
  have F := fun_mk (st := s__law_same) l c k
  ⟨f, _, ok__law_same F T F__law_is_kind, PySem.W.mg_of X G a, k, F.binds (ps := ["told", "due"]) (fun _ _ _ _ _ _ us hl => match us, hl with | [_, _], _ => rfl), fun _ us hl => match us, hl with | [_, _], _ => .of_eq rfl⟩
theorem mk__law_all (X : K.In h) (G : h.Ns mainGlobals mg) (T : Txt K mg) {f : Addr} {od an : Option Addr} {sl : Array (Option Value)} {oc kV dc pm cd ct : Value} (a : PySem.W.nsIn K mainGlobals "_law_all" = some (some (.ref f))) (l : K.lookup f = some ⟨oc, od, .func (PySem.W.fnOf "_law_all" "_law_all" (defArgs s__law_all) (defBody s__law_all) (defScope s__law_all) .none kV dc pm an cd ct), sl⟩) (c : PySem.W.codeIn K cd "_law_all" = true) (k : PySem.W.keepIn K (.ref f) = true) (F__law_same : Fd P w K mg base "_law_same" 2 ["told", "due"] wf__law_same) : Fd P w K mg base "_law_all" 3 ["pairs"] wf__law_all :=
  have F := fun_mk (st := s__law_all) l c k
  ⟨f, _, ok__law_all F T F__law_same, PySem.W.mg_of X G a, k, F.binds (ps := ["pairs"]) (fun _ _ _ _ _ _ us hl => match us, hl with | [_], _ => rfl), fun _ us hl => match us, hl with | [_], _ => .of_eq rfl⟩
theorem mk__law_number_octets (X : K.In h) (G : h.Ns mainGlobals mg) (T : Txt K mg) {f : Addr} {od an : Option Addr} {sl : Array (Option Value)} {oc kV dc pm cd ct : Value} (a : PySem.W.nsIn K mainGlobals "_law_number_octets" = some (some (.ref f))) (l : K.lookup f = some ⟨oc, od, .func (PySem.W.fnOf "_law_number_octets" "_law_number_octets" (defArgs s__law_number_octets) (defBody s__law_number_octets) (defScope s__law_number_octets) .none kV dc pm an cd ct), sl⟩) (c : PySem.W.codeIn K cd "_law_number_octets" = true) (k : PySem.W.keepIn K (.ref f) = true) : Fd P w K mg base "_law_number_octets" 1 ["number"] wf__law_number_octets :=
  have F := fun_mk (st := s__law_number_octets) l c k
  ⟨f, _, ok__law_number_octets F T, PySem.W.mg_of X G a, k, F.binds (ps := ["number"]) (fun _ _ _ _ _ _ us hl => match us, hl with | [_], _ => rfl), fun _ us hl => match us, hl with | [_], _ => .of_eq rfl⟩
theorem mk__law_sum (X : K.In h) (G : h.Ns mainGlobals mg) (T : Txt K mg) {f : Addr} {od an : Option Addr} {sl : Array (Option Value)} {oc kV dc pm cd ct : Value} (a : PySem.W.nsIn K mainGlobals "_law_sum" = some (some (.ref f))) (l : K.lookup f = some ⟨oc, od, .func (PySem.W.fnOf "_law_sum" "_law_sum" (defArgs s__law_sum) (defBody s__law_sum) (defScope s__law_sum) .none kV dc pm an cd ct), sl⟩) (c : PySem.W.codeIn K cd "_law_sum" = true) (k : PySem.W.keepIn K (.ref f) = true) : Fd P w K mg base "_law_sum" 1 ["octets"] wf__law_sum :=
  have F := fun_mk (st := s__law_sum) l c k
  ⟨f, _, ok__law_sum F T, PySem.W.mg_of X G a, k, F.binds (ps := ["octets"]) (fun _ _ _ _ _ _ us hl => match us, hl with | [_], _ => rfl), fun _ us hl => match us, hl with | [_], _ => .of_eq rfl⟩
theorem mk__law_framed (X : K.In h) (G : h.Ns mainGlobals mg) (T : Txt K mg) {f : Addr} {od an : Option Addr} {sl : Array (Option Value)} {oc kV dc pm cd ct : Value} (a : PySem.W.nsIn K mainGlobals "_law_framed" = some (some (.ref f))) (l : K.lookup f = some ⟨oc, od, .func (PySem.W.fnOf "_law_framed" "_law_framed" (defArgs s__law_framed) (defBody s__law_framed) (defScope s__law_framed) .none kV dc pm an cd ct), sl⟩) (c : PySem.W.codeIn K cd "_law_framed" = true) (k : PySem.W.keepIn K (.ref f) = true) (F__law_number_octets : Fd P w K mg base "_law_number_octets" 1 ["number"] wf__law_number_octets) (F__law_sum : Fd P w K mg base "_law_sum" 1 ["octets"] wf__law_sum) : Fd P w K mg base "_law_framed" 2 ["body"] wf__law_framed :=
  have F := fun_mk (st := s__law_framed) l c k
  ⟨f, _, ok__law_framed F T F__law_number_octets F__law_sum, PySem.W.mg_of X G a, k, F.binds (ps := ["body"]) (fun _ _ _ _ _ _ us hl => match us, hl with | [_], _ => rfl), fun _ us hl => match us, hl with | [_], _ => .of_eq rfl⟩
theorem mk__law_joined (X : K.In h) (G : h.Ns mainGlobals mg) (T : Txt K mg) {f : Addr} {od an : Option Addr} {sl : Array (Option Value)} {oc kV dc pm cd ct : Value} (a : PySem.W.nsIn K mainGlobals "_law_joined" = some (some (.ref f))) (l : K.lookup f = some ⟨oc, od, .func (PySem.W.fnOf "_law_joined" "_law_joined" (defArgs s__law_joined) (defBody s__law_joined) (defScope s__law_joined) .none kV dc pm an cd ct), sl⟩) (c : PySem.W.codeIn K cd "_law_joined" = true) (k : PySem.W.keepIn K (.ref f) = true) : Fd P w K mg base "_law_joined" 1 ["rows"] wf__law_joined :=
  have F := fun_mk (st := s__law_joined) l c k
  ⟨f, _, ok__law_joined F T, PySem.W.mg_of X G a, k, F.binds (ps := ["rows"]) (fun _ _ _ _ _ _ us hl => match us, hl with | [_], _ => rfl), fun _ us hl => match us, hl with | [_], _ => .of_eq rfl⟩
theorem mk__law_octet (X : K.In h) (G : h.Ns mainGlobals mg) (T : Txt K mg) {f : Addr} {od an : Option Addr} {sl : Array (Option Value)} {oc kV dc pm cd ct : Value} (a : PySem.W.nsIn K mainGlobals "_law_octet" = some (some (.ref f))) (l : K.lookup f = some ⟨oc, od, .func (PySem.W.fnOf "_law_octet" "_law_octet" (defArgs s__law_octet) (defBody s__law_octet) (defScope s__law_octet) .none kV dc pm an cd ct), sl⟩) (c : PySem.W.codeIn K cd "_law_octet" = true) (k : PySem.W.keepIn K (.ref f) = true) (F__law_any : Fd P w K mg base "_law_any" 1 ["deal", "bound"] wf__law_any) (F__law_of : Fd P w K mg base "_law_of" 2 ["deal", "some"] wf__law_of) : Fd P w K mg base "_law_octet" 3 ["deal"] wf__law_octet :=
  have F := fun_mk (st := s__law_octet) l c k
  ⟨f, _, ok__law_octet F T F__law_any F__law_of, PySem.W.mg_of X G a, k, F.binds (ps := ["deal"]) (fun _ _ _ _ _ _ us hl => match us, hl with | [_], _ => rfl), fun _ us hl => match us, hl with | [_], _ => .of_eq rfl⟩
theorem mk__law_some_body (X : K.In h) (G : h.Ns mainGlobals mg) (T : Txt K mg) {f : Addr} {od an : Option Addr} {sl : Array (Option Value)} {oc kV dc pm cd ct : Value} (a : PySem.W.nsIn K mainGlobals "_law_some_body" = some (some (.ref f))) (l : K.lookup f = some ⟨oc, od, .func (PySem.W.fnOf "_law_some_body" "_law_some_body" (defArgs s__law_some_body) (defBody s__law_some_body) (defScope s__law_some_body) .none kV dc pm an cd ct), sl⟩) (c : PySem.W.codeIn K cd "_law_some_body" = true) (k : PySem.W.keepIn K (.ref f) = true) (F__law_of : Fd P w K mg base "_law_of" 2 ["deal", "some"] wf__law_of) (F__law_octet : Fd P w K mg base "_law_octet" 3 ["deal"] wf__law_octet) : Fd P w K mg base "_law_some_body" 4 ["deal"] wf__law_some_body :=
  have F := fun_mk (st := s__law_some_body) l c k
  ⟨f, _, ok__law_some_body F T F__law_of F__law_octet, PySem.W.mg_of X G a, k, F.binds (ps := ["deal"]) (fun _ _ _ _ _ _ us hl => match us, hl with | [_], _ => rfl), fun _ us hl => match us, hl with | [_], _ => .of_eq rfl⟩
theorem mk__law_bent (X : K.In h) (G : h.Ns mainGlobals mg) (T : Txt K mg) {f : Addr} {od an : Option Addr} {sl : Array (Option Value)} {oc kV dc pm cd ct : Value} (a : PySem.W.nsIn K mainGlobals "_law_bent" = some (some (.ref f))) (l : K.lookup f = some ⟨oc, od, .func (PySem.W.fnOf "_law_bent" "_law_bent" (defArgs s__law_bent) (defBody s__law_bent) (defScope s__law_bent) .none kV dc pm an cd ct), sl⟩) (c : PySem.W.codeIn K cd "_law_bent" = true) (k : PySem.W.keepIn K (.ref f) = true) (F__law_any : Fd P w K mg base "_law_any" 1 ["deal", "bound"] wf__law_any) (F__law_of : Fd P w K mg base "_law_of" 2 ["deal", "some"] wf__law_of) (F__law_octet : Fd P w K mg base "_law_octet" 3 ["deal"] wf__law_octet) : Fd P w K mg base "_law_bent" 4 ["deal", "octets"] wf__law_bent :=
  have F := fun_mk (st := s__law_bent) l c k
  ⟨f, _, ok__law_bent F T F__law_any F__law_of F__law_octet, PySem.W.mg_of X G a, k, F.binds (ps := ["deal", "octets"]) (fun _ _ _ _ _ _ us hl => match us, hl with | [_, _], _ => rfl), fun _ us hl => match us, hl with | [_, _], _ => .of_eq rfl⟩
theorem mk__law_number_at (X : K.In h) (G : h.Ns mainGlobals mg) (T : Txt K mg) {f : Addr} {od an : Option Addr} {sl : Array (Option Value)} {oc kV dc pm cd ct : Value} (a : PySem.W.nsIn K mainGlobals "_law_number_at" = some (some (.ref f))) (l : K.lookup f = some ⟨oc, od, .func (PySem.W.fnOf "_law_number_at" "_law_number_at" (defArgs s__law_number_at) (defBody s__law_number_at) (defScope s__law_number_at) .none kV dc pm an cd ct), sl⟩) (c : PySem.W.codeIn K cd "_law_number_at" = true) (k : PySem.W.keepIn K (.ref f) = true) : Fd P w K mg base "_law_number_at" 1 ["octets", "at"] wf__law_number_at :=
  have F := fun_mk (st := s__law_number_at) l c k
  ⟨f, _, ok__law_number_at F T, PySem.W.mg_of X G a, k, F.binds (ps := ["octets", "at"]) (fun _ _ _ _ _ _ us hl => match us, hl with | [_, _], _ => rfl), fun _ us hl => match us, hl with | [_, _], _ => .of_eq rfl⟩
theorem mk__law_frames_in (X : K.In h) (G : h.Ns mainGlobals mg) (T : Txt K mg) {f : Addr} {od an : Option Addr} {sl : Array (Option Value)} {oc kV dc pm cd ct : Value} (a : PySem.W.nsIn K mainGlobals "_law_frames_in" = some (some (.ref f))) (l : K.lookup f = some ⟨oc, od, .func (PySem.W.fnOf "_law_frames_in" "_law_frames_in" (defArgs s__law_frames_in) (defBody s__law_frames_in) (defScope s__law_frames_in) .none kV dc pm an cd ct), sl⟩) (c : PySem.W.codeIn K cd "_law_frames_in" = true) (k : PySem.W.keepIn K (.ref f) = true) (F__law_sum : Fd P w K mg base "_law_sum" 1 ["octets"] wf__law_sum) (F__law_number_at : Fd P w K mg base "_law_number_at" 1 ["octets", "at"] wf__law_number_at) : Fd P w K mg base "_law_frames_in" 2 ["octets"] wf__law_frames_in :=
  have F := fun_mk (st := s__law_frames_in) l c k
  ⟨f, _, ok__law_frames_in F T F__law_sum F__law_number_at, PySem.W.mg_of X G a, k, F.binds (ps := ["octets"]) (fun _ _ _ _ _ _ us hl => match us, hl with | [_], _ => rfl), fun _ us hl => match us, hl with | [_], _ => .of_eq rfl⟩
theorem mk__law_due (X : K.In h) (G : h.Ns mainGlobals mg) (T : Txt K mg) {f : Addr} {od an : Option Addr} {sl : Array (Option Value)} {oc kV dc pm cd ct : Value} (a : PySem.W.nsIn K mainGlobals "_law_due" = some (some (.ref f))) (l : K.lookup f = some ⟨oc, od, .func (PySem.W.fnOf "_law_due" "_law_due" (defArgs s__law_due) (defBody s__law_due) (defScope s__law_due) .none kV dc pm an cd ct), sl⟩) (c : PySem.W.codeIn K cd "_law_due" = true) (k : PySem.W.keepIn K (.ref f) = true) (F__law_frames_in : Fd P w K mg base "_law_frames_in" 2 ["octets"] wf__law_frames_in) : Fd P w K mg base "_law_due" 3 ["octets"] wf__law_due :=
  have F := fun_mk (st := s__law_due) l c k
  ⟨f, _, ok__law_due F T F__law_frames_in, PySem.W.mg_of X G a, k, F.binds (ps := ["octets"]) (fun _ _ _ _ _ _ us hl => match us, hl with | [_], _ => rfl), fun _ us hl => match us, hl with | [_], _ => .of_eq rfl⟩
end
theorem all_mk {l : PySem.W.OpenLaw} {w : World} {K : PySem.W.Frag} {h : Heap} {mg : Str → Option Value} {fa : Addr} (X : K.In h) (G : h.Ns mainGlobals mg) (hfa : mg "law" = some (.ref fa))
    {f_octets_of_number f_number_octets f_sum_of_octets f_sum_pair f_frame f_number_of f_behind_number f_number_in f_frame_at f_frames f__law_deal f__law_any f__law_of f__law_is_kind f__law_same f__law_all f__law_number_octets f__law_sum f__law_framed f__law_joined f__law_octet f__law_some_body f__law_bent f__law_number_at f__law_frames_in f__law_due f_law : Addr} {od_octets_of_number an_octets_of_number od_number_octets an_number_octets od_sum_of_octets an_sum_of_octets od_sum_pair an_sum_pair od_frame an_frame od_number_of an_number_of od_behind_number an_behind_number od_number_in an_number_in od_frame_at an_frame_at od_frames an_frames od__law_deal an__law_deal od__law_any an__law_any od__law_of an__law_of od__law_is_kind an__law_is_kind od__law_same an__law_same od__law_all an__law_all od__law_number_octets an__law_number_octets od__law_sum an__law_sum od__law_framed an__law_framed od__law_joined an__law_joined od__law_octet an__law_octet od__law_some_body an__law_some_body od__law_bent an__law_bent od__law_number_at an__law_number_at od__law_frames_in an__law_frames_in od__law_due an__law_due od_law an_law : Option Addr} {sl_octets_of_number sl_number_octets sl_sum_of_octets sl_sum_pair sl_frame sl_number_of sl_behind_number sl_number_in sl_frame_at sl_frames sl__law_deal sl__law_any sl__law_of sl__law_is_kind sl__law_same sl__law_all sl__law_number_octets sl__law_sum sl__law_framed sl__law_joined sl__law_octet sl__law_some_body sl__law_bent sl__law_number_at sl__law_frames_in sl__law_due sl_law : Array (Option Value)} {oc_octets_of_number kV_octets_of_number dc_octets_of_number pm_octets_of_number cd_octets_of_number ct_octets_of_number oc_number_octets kV_number_octets dc_number_octets pm_number_octets cd_number_octets ct_number_octets oc_sum_of_octets kV_sum_of_octets dc_sum_of_octets pm_sum_of_octets cd_sum_of_octets ct_sum_of_octets oc_sum_pair kV_sum_pair dc_sum_pair pm_sum_pair cd_sum_pair ct_sum_pair oc_frame kV_frame dc_frame pm_frame cd_frame ct_frame oc_number_of kV_number_of dc_number_of pm_number_of cd_number_of ct_number_of oc_behind_number kV_behind_number dc_behind_number pm_behind_number cd_behind_number ct_behind_number oc_number_in kV_number_in dc_number_in pm_number_in cd_number_in ct_number_in oc_frame_at kV_frame_at dc_frame_at pm_frame_at cd_frame_at ct_frame_at oc_frames kV_frames dc_frames pm_frames cd_frames ct_frames oc__law_deal kV__law_deal dc__law_deal pm__law_deal cd__law_deal ct__law_deal oc__law_any kV__law_any dc__law_any pm__law_any cd__law_any ct__law_any oc__law_of kV__law_of dc__law_of pm__law_of cd__law_of ct__law_of oc__law_is_kind kV__law_is_kind dc__law_is_kind pm__law_is_kind cd__law_is_kind ct__law_is_kind oc__law_same kV__law_same dc__law_same pm__law_same cd__law_same ct__law_same oc__law_all kV__law_all dc__law_all pm__law_all cd__law_all ct__law_all oc__law_number_octets kV__law_number_octets dc__law_number_octets pm__law_number_octets cd__law_number_octets ct__law_number_octets oc__law_sum kV__law_sum dc__law_sum pm__law_sum cd__law_sum ct__law_sum oc__law_framed kV__law_framed dc__law_framed pm__law_framed cd__law_framed ct__law_framed oc__law_joined kV__law_joined dc__law_joined pm__law_joined cd__law_joined ct__law_joined oc__law_octet kV__law_octet dc__law_octet pm__law_octet cd__law_octet ct__law_octet oc__law_some_body kV__law_some_body dc__law_some_body pm__law_some_body cd__law_some_body ct__law_some_body oc__law_bent kV__law_bent dc__law_bent pm__law_bent cd__law_bent ct__law_bent oc__law_number_at kV__law_number_at dc__law_number_at pm__law_number_at cd__law_number_at ct__law_number_at oc__law_frames_in kV__law_frames_in dc__law_frames_in pm__law_frames_in cd__law_frames_in ct__law_frames_in oc__law_due kV__law_due dc__law_due pm__law_due cd__law_due ct__law_due oc_law kV_law dc_law pm_law cd_law ct_law : Value}
    {C_Answer : Addr}
    {t_BASE t_OCTET t_PRIME t_SUM_OCTETS : Tok}
    (a_octets_of_number : PySem.W.nsIn K mainGlobals "octets_of_number" = some (some (.ref f_octets_of_number))) (l_octets_of_number : K.lookup f_octets_of_number = some ⟨oc_octets_of_number, od_octets_of_number, .func (PySem.W.fnOf "octets_of_number" "octets_of_number" (defArgs s_octets_of_number) (defBody s_octets_of_number) (defScope s_octets_of_number) .none kV_octets_of_number dc_octets_of_number pm_octets_of_number an_octets_of_number cd_octets_of_number ct_octets_of_number), sl_octets_of_number⟩) (c_octets_of_number : PySem.W.codeIn K cd_octets_of_number "octets_of_number" = true) (k_octets_of_number : PySem.W.keepIn K (.ref f_octets_of_number) = true)
    (a_number_octets : PySem.W.nsIn K mainGlobals "number_octets" = some (some (.ref f_number_octets))) (l_number_octets : K.lookup f_number_octets = some ⟨oc_number_octets, od_number_octets, .func (PySem.W.fnOf "number_octets" "number_octets" (defArgs s_number_octets) (defBody s_number_octets) (defScope s_number_octets) .none kV_number_octets dc_number_octets pm_number_octets an_number_octets cd_number_octets ct_number_octets), sl_number_octets⟩) (c_number_octets : PySem.W.codeIn K cd_number_octets "number_octets" = true) (k_number_octets : PySem.W.keepIn K (.ref f_number_octets) = true)
    (a_sum_of_octets : PySem.W.nsIn K mainGlobals "sum_of_octets" = some (some (.ref f_sum_of_octets))) (l_sum_of_octets : K.lookup f_sum_of_octets = some ⟨oc_sum_of_octets, od_sum_of_octets, .func (PySem.W.fnOf "sum_of_octets" "sum_of_octets" (defArgs s_sum_of_octets) (defBody s_sum_of_octets) (defScope s_sum_of_octets) .none kV_sum_of_octets dc_sum_of_octets pm_sum_of_octets an_sum_of_octets cd_sum_of_octets ct_sum_of_octets), sl_sum_of_octets⟩) (c_sum_of_octets : PySem.W.codeIn K cd_sum_of_octets "sum_of_octets" = true) (k_sum_of_octets : PySem.W.keepIn K (.ref f_sum_of_octets) = true)
    (a_sum_pair : PySem.W.nsIn K mainGlobals "sum_pair" = some (some (.ref f_sum_pair))) (l_sum_pair : K.lookup f_sum_pair = some ⟨oc_sum_pair, od_sum_pair, .func (PySem.W.fnOf "sum_pair" "sum_pair" (defArgs s_sum_pair) (defBody s_sum_pair) (defScope s_sum_pair) .none kV_sum_pair dc_sum_pair pm_sum_pair an_sum_pair cd_sum_pair ct_sum_pair), sl_sum_pair⟩) (c_sum_pair : PySem.W.codeIn K cd_sum_pair "sum_pair" = true) (k_sum_pair : PySem.W.keepIn K (.ref f_sum_pair) = true)
    (a_frame : PySem.W.nsIn K mainGlobals "frame" = some (some (.ref f_frame))) (l_frame : K.lookup f_frame = some ⟨oc_frame, od_frame, .func (PySem.W.fnOf "frame" "frame" (defArgs s_frame) (defBody s_frame) (defScope s_frame) .none kV_frame dc_frame pm_frame an_frame cd_frame ct_frame), sl_frame⟩) (c_frame : PySem.W.codeIn K cd_frame "frame" = true) (k_frame : PySem.W.keepIn K (.ref f_frame) = true)
    (a_number_of : PySem.W.nsIn K mainGlobals "number_of" = some (some (.ref f_number_of))) (l_number_of : K.lookup f_number_of = some ⟨oc_number_of, od_number_of, .func (PySem.W.fnOf "number_of" "number_of" (defArgs s_number_of) (defBody s_number_of) (defScope s_number_of) .none kV_number_of dc_number_of pm_number_of an_number_of cd_number_of ct_number_of), sl_number_of⟩) (c_number_of : PySem.W.codeIn K cd_number_of "number_of" = true) (k_number_of : PySem.W.keepIn K (.ref f_number_of) = true)
    (a_behind_number : PySem.W.nsIn K mainGlobals "behind_number" = some (some (.ref f_behind_number))) (l_behind_number : K.lookup f_behind_number = some ⟨oc_behind_number, od_behind_number, .func (PySem.W.fnOf "behind_number" "behind_number" (defArgs s_behind_number) (defBody s_behind_number) (defScope s_behind_number) .none kV_behind_number dc_behind_number pm_behind_number an_behind_number cd_behind_number ct_behind_number), sl_behind_number⟩) (c_behind_number : PySem.W.codeIn K cd_behind_number "behind_number" = true) (k_behind_number : PySem.W.keepIn K (.ref f_behind_number) = true)
    (a_number_in : PySem.W.nsIn K mainGlobals "number_in" = some (some (.ref f_number_in))) (l_number_in : K.lookup f_number_in = some ⟨oc_number_in, od_number_in, .func (PySem.W.fnOf "number_in" "number_in" (defArgs s_number_in) (defBody s_number_in) (defScope s_number_in) .none kV_number_in dc_number_in pm_number_in an_number_in cd_number_in ct_number_in), sl_number_in⟩) (c_number_in : PySem.W.codeIn K cd_number_in "number_in" = true) (k_number_in : PySem.W.keepIn K (.ref f_number_in) = true)
    (a_frame_at : PySem.W.nsIn K mainGlobals "frame_at" = some (some (.ref f_frame_at))) (l_frame_at : K.lookup f_frame_at = some ⟨oc_frame_at, od_frame_at, .func (PySem.W.fnOf "frame_at" "frame_at" (defArgs s_frame_at) (defBody s_frame_at) (defScope s_frame_at) .none kV_frame_at dc_frame_at pm_frame_at an_frame_at cd_frame_at ct_frame_at), sl_frame_at⟩) (c_frame_at : PySem.W.codeIn K cd_frame_at "frame_at" = true) (k_frame_at : PySem.W.keepIn K (.ref f_frame_at) = true)
    (a_frames : PySem.W.nsIn K mainGlobals "frames" = some (some (.ref f_frames))) (l_frames : K.lookup f_frames = some ⟨oc_frames, od_frames, .func (PySem.W.fnOf "frames" "frames" (defArgs s_frames) (defBody s_frames) (defScope s_frames) .none kV_frames dc_frames pm_frames an_frames cd_frames ct_frames), sl_frames⟩) (c_frames : PySem.W.codeIn K cd_frames "frames" = true) (k_frames : PySem.W.keepIn K (.ref f_frames) = true)
    (a__law_deal : PySem.W.nsIn K mainGlobals "_law_deal" = some (some (.ref f__law_deal))) (l__law_deal : K.lookup f__law_deal = some ⟨oc__law_deal, od__law_deal, .func (PySem.W.fnOf "_law_deal" "_law_deal" (defArgs s__law_deal) (defBody s__law_deal) (defScope s__law_deal) .none kV__law_deal dc__law_deal pm__law_deal an__law_deal cd__law_deal ct__law_deal), sl__law_deal⟩) (c__law_deal : PySem.W.codeIn K cd__law_deal "_law_deal" = true) (k__law_deal : PySem.W.keepIn K (.ref f__law_deal) = true)
    (a__law_any : PySem.W.nsIn K mainGlobals "_law_any" = some (some (.ref f__law_any))) (l__law_any : K.lookup f__law_any = some ⟨oc__law_any, od__law_any, .func (PySem.W.fnOf "_law_any" "_law_any" (defArgs s__law_any) (defBody s__law_any) (defScope s__law_any) .none kV__law_any dc__law_any pm__law_any an__law_any cd__law_any ct__law_any), sl__law_any⟩) (c__law_any : PySem.W.codeIn K cd__law_any "_law_any" = true) (k__law_any : PySem.W.keepIn K (.ref f__law_any) = true)
    (a__law_of : PySem.W.nsIn K mainGlobals "_law_of" = some (some (.ref f__law_of))) (l__law_of : K.lookup f__law_of = some ⟨oc__law_of, od__law_of, .func (PySem.W.fnOf "_law_of" "_law_of" (defArgs s__law_of) (defBody s__law_of) (defScope s__law_of) .none kV__law_of dc__law_of pm__law_of an__law_of cd__law_of ct__law_of), sl__law_of⟩) (c__law_of : PySem.W.codeIn K cd__law_of "_law_of" = true) (k__law_of : PySem.W.keepIn K (.ref f__law_of) = true)
    (a__law_is_kind : PySem.W.nsIn K mainGlobals "_law_is_kind" = some (some (.ref f__law_is_kind))) (l__law_is_kind : K.lookup f__law_is_kind = some ⟨oc__law_is_kind, od__law_is_kind, .func (PySem.W.fnOf "_law_is_kind" "_law_is_kind" (defArgs s__law_is_kind) (defBody s__law_is_kind) (defScope s__law_is_kind) .none kV__law_is_kind dc__law_is_kind pm__law_is_kind an__law_is_kind cd__law_is_kind ct__law_is_kind), sl__law_is_kind⟩) (c__law_is_kind : PySem.W.codeIn K cd__law_is_kind "_law_is_kind" = true) (k__law_is_kind : PySem.W.keepIn K (.ref f__law_is_kind) = true)
    (a__law_same : PySem.W.nsIn K mainGlobals "_law_same" = some (some (.ref f__law_same))) (l__law_same : K.lookup f__law_same = some ⟨oc__law_same, od__law_same, .func (PySem.W.fnOf "_law_same" "_law_same" (defArgs s__law_same) (defBody s__law_same) (defScope s__law_same) .none kV__law_same dc__law_same pm__law_same an__law_same cd__law_same ct__law_same), sl__law_same⟩) (c__law_same : PySem.W.codeIn K cd__law_same "_law_same" = true) (k__law_same : PySem.W.keepIn K (.ref f__law_same) = true)
    (a__law_all : PySem.W.nsIn K mainGlobals "_law_all" = some (some (.ref f__law_all))) (l__law_all : K.lookup f__law_all = some ⟨oc__law_all, od__law_all, .func (PySem.W.fnOf "_law_all" "_law_all" (defArgs s__law_all) (defBody s__law_all) (defScope s__law_all) .none kV__law_all dc__law_all pm__law_all an__law_all cd__law_all ct__law_all), sl__law_all⟩) (c__law_all : PySem.W.codeIn K cd__law_all "_law_all" = true) (k__law_all : PySem.W.keepIn K (.ref f__law_all) = true)
    (a__law_number_octets : PySem.W.nsIn K mainGlobals "_law_number_octets" = some (some (.ref f__law_number_octets))) (l__law_number_octets : K.lookup f__law_number_octets = some ⟨oc__law_number_octets, od__law_number_octets, .func (PySem.W.fnOf "_law_number_octets" "_law_number_octets" (defArgs s__law_number_octets) (defBody s__law_number_octets) (defScope s__law_number_octets) .none kV__law_number_octets dc__law_number_octets pm__law_number_octets an__law_number_octets cd__law_number_octets ct__law_number_octets), sl__law_number_octets⟩) (c__law_number_octets : PySem.W.codeIn K cd__law_number_octets "_law_number_octets" = true) (k__law_number_octets : PySem.W.keepIn K (.ref f__law_number_octets) = true)
    (a__law_sum : PySem.W.nsIn K mainGlobals "_law_sum" = some (some (.ref f__law_sum))) (l__law_sum : K.lookup f__law_sum = some ⟨oc__law_sum, od__law_sum, .func (PySem.W.fnOf "_law_sum" "_law_sum" (defArgs s__law_sum) (defBody s__law_sum) (defScope s__law_sum) .none kV__law_sum dc__law_sum pm__law_sum an__law_sum cd__law_sum ct__law_sum), sl__law_sum⟩) (c__law_sum : PySem.W.codeIn K cd__law_sum "_law_sum" = true) (k__law_sum : PySem.W.keepIn K (.ref f__law_sum) = true)
    (a__law_framed : PySem.W.nsIn K mainGlobals "_law_framed" = some (some (.ref f__law_framed))) (l__law_framed : K.lookup f__law_framed = some ⟨oc__law_framed, od__law_framed, .func (PySem.W.fnOf "_law_framed" "_law_framed" (defArgs s__law_framed) (defBody s__law_framed) (defScope s__law_framed) .none kV__law_framed dc__law_framed pm__law_framed an__law_framed cd__law_framed ct__law_framed), sl__law_framed⟩) (c__law_framed : PySem.W.codeIn K cd__law_framed "_law_framed" = true) (k__law_framed : PySem.W.keepIn K (.ref f__law_framed) = true)
    (a__law_joined : PySem.W.nsIn K mainGlobals "_law_joined" = some (some (.ref f__law_joined))) (l__law_joined : K.lookup f__law_joined = some ⟨oc__law_joined, od__law_joined, .func (PySem.W.fnOf "_law_joined" "_law_joined" (defArgs s__law_joined) (defBody s__law_joined) (defScope s__law_joined) .none kV__law_joined dc__law_joined pm__law_joined an__law_joined cd__law_joined ct__law_joined), sl__law_joined⟩) (c__law_joined : PySem.W.codeIn K cd__law_joined "_law_joined" = true) (k__law_joined : PySem.W.keepIn K (.ref f__law_joined) = true)
    (a__law_octet : PySem.W.nsIn K mainGlobals "_law_octet" = some (some (.ref f__law_octet))) (l__law_octet : K.lookup f__law_octet = some ⟨oc__law_octet, od__law_octet, .func (PySem.W.fnOf "_law_octet" "_law_octet" (defArgs s__law_octet) (defBody s__law_octet) (defScope s__law_octet) .none kV__law_octet dc__law_octet pm__law_octet an__law_octet cd__law_octet ct__law_octet), sl__law_octet⟩) (c__law_octet : PySem.W.codeIn K cd__law_octet "_law_octet" = true) (k__law_octet : PySem.W.keepIn K (.ref f__law_octet) = true)
    (a__law_some_body : PySem.W.nsIn K mainGlobals "_law_some_body" = some (some (.ref f__law_some_body))) (l__law_some_body : K.lookup f__law_some_body = some ⟨oc__law_some_body, od__law_some_body, .func (PySem.W.fnOf "_law_some_body" "_law_some_body" (defArgs s__law_some_body) (defBody s__law_some_body) (defScope s__law_some_body) .none kV__law_some_body dc__law_some_body pm__law_some_body an__law_some_body cd__law_some_body ct__law_some_body), sl__law_some_body⟩) (c__law_some_body : PySem.W.codeIn K cd__law_some_body "_law_some_body" = true) (k__law_some_body : PySem.W.keepIn K (.ref f__law_some_body) = true)
    (a__law_bent : PySem.W.nsIn K mainGlobals "_law_bent" = some (some (.ref f__law_bent))) (l__law_bent : K.lookup f__law_bent = some ⟨oc__law_bent, od__law_bent, .func (PySem.W.fnOf "_law_bent" "_law_bent" (defArgs s__law_bent) (defBody s__law_bent) (defScope s__law_bent) .none kV__law_bent dc__law_bent pm__law_bent an__law_bent cd__law_bent ct__law_bent), sl__law_bent⟩) (c__law_bent : PySem.W.codeIn K cd__law_bent "_law_bent" = true) (k__law_bent : PySem.W.keepIn K (.ref f__law_bent) = true)
    (a__law_number_at : PySem.W.nsIn K mainGlobals "_law_number_at" = some (some (.ref f__law_number_at))) (l__law_number_at : K.lookup f__law_number_at = some ⟨oc__law_number_at, od__law_number_at, .func (PySem.W.fnOf "_law_number_at" "_law_number_at" (defArgs s__law_number_at) (defBody s__law_number_at) (defScope s__law_number_at) .none kV__law_number_at dc__law_number_at pm__law_number_at an__law_number_at cd__law_number_at ct__law_number_at), sl__law_number_at⟩) (c__law_number_at : PySem.W.codeIn K cd__law_number_at "_law_number_at" = true) (k__law_number_at : PySem.W.keepIn K (.ref f__law_number_at) = true)
    (a__law_frames_in : PySem.W.nsIn K mainGlobals "_law_frames_in" = some (some (.ref f__law_frames_in))) (l__law_frames_in : K.lookup f__law_frames_in = some ⟨oc__law_frames_in, od__law_frames_in, .func (PySem.W.fnOf "_law_frames_in" "_law_frames_in" (defArgs s__law_frames_in) (defBody s__law_frames_in) (defScope s__law_frames_in) .none kV__law_frames_in dc__law_frames_in pm__law_frames_in an__law_frames_in cd__law_frames_in ct__law_frames_in), sl__law_frames_in⟩) (c__law_frames_in : PySem.W.codeIn K cd__law_frames_in "_law_frames_in" = true) (k__law_frames_in : PySem.W.keepIn K (.ref f__law_frames_in) = true)
    (a__law_due : PySem.W.nsIn K mainGlobals "_law_due" = some (some (.ref f__law_due))) (l__law_due : K.lookup f__law_due = some ⟨oc__law_due, od__law_due, .func (PySem.W.fnOf "_law_due" "_law_due" (defArgs s__law_due) (defBody s__law_due) (defScope s__law_due) .none kV__law_due dc__law_due pm__law_due an__law_due cd__law_due ct__law_due), sl__law_due⟩) (c__law_due : PySem.W.codeIn K cd__law_due "_law_due" = true) (k__law_due : PySem.W.keepIn K (.ref f__law_due) = true)
    (a_law : PySem.W.nsIn K mainGlobals "law" = some (some (.ref f_law))) (l_law : K.lookup f_law = some ⟨oc_law, od_law, .func (PySem.W.fnOf "law" "law" (defArgs s_law) (defBody s_law) (defScope s_law) .none kV_law dc_law pm_law an_law cd_law ct_law), sl_law⟩) (c_law : PySem.W.codeIn K cd_law "law" = true) (k_law : PySem.W.keepIn K (.ref f_law) = true)
    (zb_len : PySem.W.nsIn K mainGlobals "len" = some none)
    (zb_list : PySem.W.nsIn K mainGlobals "list" = some none)
    (zb_tuple : PySem.W.nsIn K mainGlobals "tuple" = some none)
    (zb_int : PySem.W.nsIn K mainGlobals "int" = some none)
    (zb_abs : PySem.W.nsIn K mainGlobals "abs" = some none)
    (zb_sum : PySem.W.nsIn K mainGlobals "sum" = some none)
    (zb_range : PySem.W.nsIn K mainGlobals "range" = some none)
    (zb_enumerate : PySem.W.nsIn K mainGlobals "enumerate" = some none)
    (zb_zip : PySem.W.nsIn K mainGlobals "zip" = some none)
    (zb_isinstance : PySem.W.nsIn K mainGlobals "isinstance" = some none)
    (zb_str : PySem.W.nsIn K mainGlobals "str" = some none)
    (zb_bool : PySem.W.nsIn K mainGlobals "bool" = some none)
    (zb_dict : PySem.W.nsIn K mainGlobals "dict" = some none)
    (zc_BASE : PySem.W.nsIn K mainGlobals "BASE" = some (some (.int 128 t_BASE)))
    (zc_OCTET : PySem.W.nsIn K mainGlobals "OCTET" = some (some (.int 256 t_OCTET)))
    (zc_PRIME : PySem.W.nsIn K mainGlobals "PRIME" = some (some (.int 65521 t_PRIME)))
    (zc_SUM_OCTETS : PySem.W.nsIn K mainGlobals "SUM_OCTETS" = some (some (.int 2 t_SUM_OCTETS)))
    (zk_Answer : PySem.W.nsIn K mainGlobals "Answer" = some (some (.ref C_Answer)))
    (zi_Answer_NoneType : PySem.W.kitOne K (.type "NoneType") (.ref C_Answer) = some false)
    (zi_Answer_bool : PySem.W.kitOne K (.type "bool") (.ref C_Answer) = some false)
    (zi_Answer_int : PySem.W.kitOne K (.type "int") (.ref C_Answer) = some false)
    (zi_Answer_str : PySem.W.kitOne K (.type "str") (.ref C_Answer) = some false)
    (zi_Answer_list : PySem.W.kitOne K (.type "list") (.ref C_Answer) = some false)
    (zi_Answer_tuple : PySem.W.kitOne K (.type "tuple") (.ref C_Answer) = some false)
    : ∃ fd : FuncData, (∀ (s : Shared) (v : Value), BindsTo s fd ⟨[v], []⟩ [("script", v)]) ∧ ∀ base : Heap, K.In base → base.Ns mainGlobals mg → FnOk l.prog w K mg base CX0 5 fa fd ["script"] (spW K wf_law) := by
  have e := hfa.symm.trans (PySem.W.mg_of X G a_law)
  cases e
  have T : Txt K mg := ⟨PySem.W.mg_none_of X G zb_len, PySem.W.mg_none_of X G zb_list, PySem.W.mg_none_of X G zb_tuple, PySem.W.mg_none_of X G zb_int, PySem.W.mg_none_of X G zb_abs, PySem.W.mg_none_of X G zb_sum, PySem.W.mg_none_of X G zb_range, PySem.W.mg_none_of X G zb_enumerate, PySem.W.mg_none_of X G zb_zip, PySem.W.mg_none_of X G zb_isinstance, PySem.W.mg_none_of X G zb_str, PySem.W.mg_none_of X G zb_bool, PySem.W.mg_none_of X G zb_dict, ⟨_, PySem.W.mg_of X G zc_BASE⟩, ⟨_, PySem.W.mg_of X G zc_OCTET⟩, ⟨_, PySem.W.mg_of X G zc_PRIME⟩, ⟨_, PySem.W.mg_of X G zc_SUM_OCTETS⟩, ⟨C_Answer, PySem.W.mg_of X G zk_Answer, fun d => match d with | .non => zi_Answer_NoneType | .bl _ => zi_Answer_bool | .int _ => zi_Answer_int | .str _ => zi_Answer_str | .lst _ => zi_Answer_list | .tup _ => zi_Answer_tuple⟩⟩
  refine ⟨PySem.W.fnOf "law" "law" (defArgs s_law) (defBody s_law) (defScope s_law) .none kV_law dc_law pm_law an_law cd_law ct_law, fun s v => .of_eq rfl, fun base _ _ => ?_⟩
  have F_octets_of_number := mk_octets_of_number (P := l.prog) (w := w) (base := base) X G T a_octets_of_number l_octets_of_number c_octets_of_number k_octets_of_number
  have F_number_octets := mk_number_octets (P := l.prog) (w := w) (base := base) X G T a_number_octets l_number_octets c_number_octets k_number_octets F_octets_of_number
  have F_sum_of_octets := mk_sum_of_octets (P := l.prog) (w := w) (base := base) X G T a_sum_of_octets l_sum_of_octets c_sum_of_octets k_sum_of_octets
  have F_sum_pair := mk_sum_pair (P := l.prog) (w := w) (base := base) X G T a_sum_pair l_sum_pair c_sum_pair k_sum_pair F_sum_of_octets
  have F_frame := mk_frame (P := l.prog) (w := w) (base := base) X G T a_frame l_frame c_frame k_frame F_number_octets F_sum_pair
  have F_number_of := mk_number_of (P := l.prog) (w := w) (base := base) X G T a_number_of l_number_of c_number_of k_number_of
  have F_behind_number := mk_behind_number (P := l.prog) (w := w) (base := base) X G T a_behind_number l_behind_number c_behind_number k_behind_number
  have F_number_in := mk_number_in (P := l.prog) (w := w) (base := base) X G T a_number_in l_number_in c_number_in k_number_in F_number_of F_behind_number
  have F_frame_at := mk_frame_at (P := l.prog) (w := w) (base := base) X G T a_frame_at l_frame_at c_frame_at k_frame_at F_number_in F_sum_pair
  have F_frames := mk_frames (P := l.prog) (w := w) (base := base) X G T a_frames l_frames c_frames k_frames F_frame_at
  have F__law_deal := mk__law_deal (P := l.prog) (w := w) (base := base) X G T a__law_deal l__law_deal c__law_deal k__law_deal
  have F__law_any := mk__law_any (P := l.prog) (w := w) (base := base) X G T a__law_any l__law_any c__law_any k__law_any
  have F__law_of := mk__law_of (P := l.prog) (w := w) (base := base) X G T a__law_of l__law_of c__law_of k__law_of F__law_any
  have F__law_is_kind := mk__law_is_kind (P := l.prog) (w := w) (base := base) X G T a__law_is_kind l__law_is_kind c__law_is_kind k__law_is_kind
  have F__law_same := mk__law_same (P := l.prog) (w := w) (base := base) X G T a__law_same l__law_same c__law_same k__law_same F__law_is_kind
  have F__law_all := mk__law_all (P := l.prog) (w := w) (base := base) X G T a__law_all l__law_all c__law_all k__law_all F__law_same
  have F__law_number_octets := mk__law_number_octets (P := l.prog) (w := w) (base := base) X G T a__law_number_octets l__law_number_octets c__law_number_octets k__law_number_octets
  have F__law_sum := mk__law_sum (P := l.prog) (w := w) (base := base) X G T a__law_sum l__law_sum c__law_sum k__law_sum
  have F__law_framed := mk__law_framed (P := l.prog) (w := w) (base := base) X G T a__law_framed l__law_framed c__law_framed k__law_framed F__law_number_octets F__law_sum
  have F__law_joined := mk__law_joined (P := l.prog) (w := w) (base := base) X G T a__law_joined l__law_joined c__law_joined k__law_joined
  have F__law_octet := mk__law_octet (P := l.prog) (w := w) (base := base) X G T a__law_octet l__law_octet c__law_octet k__law_octet F__law_any F__law_of
  have F__law_some_body := mk__law_some_body (P := l.prog) (w := w) (base := base) X G T a__law_some_body l__law_some_body c__law_some_body k__law_some_body F__law_of F__law_octet
  have F__law_bent := mk__law_bent (P := l.prog) (w := w) (base := base) X G T a__law_bent l__law_bent c__law_bent k__law_bent F__law_any F__law_of F__law_octet
  have F__law_number_at := mk__law_number_at (P := l.prog) (w := w) (base := base) X G T a__law_number_at l__law_number_at c__law_number_at k__law_number_at
  have F__law_frames_in := mk__law_frames_in (P := l.prog) (w := w) (base := base) X G T a__law_frames_in l__law_frames_in c__law_frames_in k__law_frames_in F__law_sum F__law_number_at
  have F__law_due := mk__law_due (P := l.prog) (w := w) (base := base) X G T a__law_due l__law_due c__law_due k__law_due F__law_frames_in
  exact ok_law (fun_mk (st := s_law) l_law c_law k_law) T F_frame F_frames F__law_deal F__law_any F__law_of F__law_all F__law_number_octets F__law_framed F__law_joined F__law_octet F__law_some_body F__law_bent F__law_due
theorem walk {l : PySem.W.OpenLaw} {q : Program} {loose : List Str} {XP : (Str → Option Value) → Heap → Prop} {YP : World → Heap → Prop} {d : DefRec} {K : Params → PySem.W.Frag} (hn : l.most = some 63) (hdf : d.params.defaults = [])
    (hY : ∀ (w : World) (h : Heap), YP w h → (K w.params).In h)
    (F : ∀ (w : World) (mg : Str → Option Value) (fa : Addr) (h : Heap), (K w.params).In h → h.Ns mainGlobals mg → mg d.name = some (.ref fa) →
      ∃ fd : FuncData, (∀ (s : Shared) (u : Value), BindsTo s fd ⟨[u], []⟩ [("script", u)]) ∧ ∀ base : Heap, (K w.params).In base → base.Ns mainGlobals mg → FnOk l.prog w (K w.params) mg base CX0 5 fa fd ["script"] (spW (K w.params) wf_law)) :
    PySem.W.WalkO q loose XP YP l.row.toRowW d [] (fun f vs => PySem.call f vs) :=
  L2.walk_of (n := 63) (k := 5) (x := "script") (CX := fun _ => CX0) (sp := fun w => spW (K w.params) wf_law) hn (by decide) hdf ⟨rfl, by decide, by decide⟩ hY F
    (fun w H a ns hl _ hS => ⟨H, fun _ => none, [.scr ns], fun s _ => s = .d (.bl true), ⟨Same.refl H, fun _ _ e => nomatch e⟩, .cons ⟨a, rfl, hS⟩ .nil, ⟨ns, rfl, rfl⟩, fun v s D' M' H' _ _ r q => by
      subst q
      cases r
      rfl⟩) fun _ _ _ _ _ z => z
end Lw

open PySem PySem.W PyProof.Rows in
set_option maxRecDepth 100000 in
set_option maxHeartbeats 0 in
theorem PySem.Challenge.cw_thoughsomelie_k78_frames_are_read_up_to_holds : PySem.Challenge.rw_thoughsomelie_k78_frames_are_read_up_to.Holds := by
  w_on; o_law; k_head; (case hw => w_witness2)
  k_fill
  refine Lw.walk (l := PySem.Challenge.rw_thoughsomelie_k78_frames_are_read_up_to) rfl rfl (fun w h Y => PySem.W.kIn_of Y) ?F
  case F =>
    intro w mg fa h KX G hmg
    refine' Lw.all_mk KX G hmg ?a_octets_of_number ?l_octets_of_number ?c_octets_of_number ?k_octets_of_number ?a_number_octets ?l_number_octets ?c_number_octets ?k_number_octets ?a_sum_of_octets ?l_sum_of_octets ?c_sum_of_octets ?k_sum_of_octets ?a_sum_pair ?l_sum_pair ?c_sum_pair ?k_sum_pair ?a_frame ?l_frame ?c_frame ?k_frame ?a_number_of ?l_number_of ?c_number_of ?k_number_of ?a_behind_number ?l_behind_number ?c_behind_number ?k_behind_number ?a_number_in ?l_number_in ?c_number_in ?k_number_in ?a_frame_at ?l_frame_at ?c_frame_at ?k_frame_at ?a_frames ?l_frames ?c_frames ?k_frames ?a__law_deal ?l__law_deal ?c__law_deal ?k__law_deal ?a__law_any ?l__law_any ?c__law_any ?k__law_any ?a__law_of ?l__law_of ?c__law_of ?k__law_of ?a__law_is_kind ?l__law_is_kind ?c__law_is_kind ?k__law_is_kind ?a__law_same ?l__law_same ?c__law_same ?k__law_same ?a__law_all ?l__law_all ?c__law_all ?k__law_all ?a__law_number_octets ?l__law_number_octets ?c__law_number_octets ?k__law_number_octets ?a__law_sum ?l__law_sum ?c__law_sum ?k__law_sum ?a__law_framed ?l__law_framed ?c__law_framed ?k__law_framed ?a__law_joined ?l__law_joined ?c__law_joined ?k__law_joined ?a__law_octet ?l__law_octet ?c__law_octet ?k__law_octet ?a__law_some_body ?l__law_some_body ?c__law_some_body ?k__law_some_body ?a__law_bent ?l__law_bent ?c__law_bent ?k__law_bent ?a__law_number_at ?l__law_number_at ?c__law_number_at ?k__law_number_at ?a__law_frames_in ?l__law_frames_in ?c__law_frames_in ?k__law_frames_in ?a__law_due ?l__law_due ?c__law_due ?k__law_due ?a_law ?l_law ?c_law ?k_law ?zb_len ?zb_list ?zb_tuple ?zb_int ?zb_abs ?zb_sum ?zb_range ?zb_enumerate ?zb_zip ?zb_isinstance ?zb_str ?zb_bool ?zb_dict ?zc_BASE ?zc_OCTET ?zc_PRIME ?zc_SUM_OCTETS ?zk_Answer ?zi_Answer_NoneType ?zi_Answer_bool ?zi_Answer_int ?zi_Answer_str ?zi_Answer_list ?zi_Answer_tuple
    (case a_octets_of_number => k_is)
    (case l_octets_of_number => k_is)
    (case c_octets_of_number => k_is)
    (case k_octets_of_number => k_is)
    (case a_number_octets => k_is)
    (case l_number_octets => k_is)
    (case c_number_octets => k_is)
    (case k_number_octets => k_is)
    (case a_sum_of_octets => k_is)
    (case l_sum_of_octets => k_is)
    (case c_sum_of_octets => k_is)
    (case k_sum_of_octets => k_is)
    (case a_sum_pair => k_is)
    (case l_sum_pair => k_is)
    (case c_sum_pair => k_is)
    (case k_sum_pair => k_is)
    (case a_frame => k_is)
    (case l_frame => k_is)
    (case c_frame => k_is)
    (case k_frame => k_is)
    (case a_number_of => k_is)
    (case l_number_of => k_is)
    (case c_number_of => k_is)
    (case k_number_of => k_is)
    (case a_behind_number => k_is)
    (case l_behind_number => k_is)
    (case c_behind_number => k_is)
    (case k_behind_number => k_is)
    (case a_number_in => k_is)
    (case l_number_in => k_is)
    (case c_number_in => k_is)
    (case k_number_in => k_is)
    (case a_frame_at => k_is)
    (case l_frame_at => k_is)
    (case c_frame_at => k_is)
    (case k_frame_at => k_is)
    (case a_frames => k_is)
    (case l_frames => k_is)
    (case c_frames => k_is)
    (case k_frames => k_is)
    (case a__law_deal => k_is)
    (case l__law_deal => k_is)
    (case c__law_deal => k_is)
    (case k__law_deal => k_is)
    (case a__law_any => k_is)
    (case l__law_any => k_is)
    (case c__law_any => k_is)
    (case k__law_any => k_is)
    (case a__law_of => k_is)
    (case l__law_of => k_is)
    (case c__law_of => k_is)
    (case k__law_of => k_is)
    (case a__law_is_kind => k_is)
    (case l__law_is_kind => k_is)
    (case c__law_is_kind => k_is)
    (case k__law_is_kind => k_is)
    (case a__law_same => k_is)
    (case l__law_same => k_is)
    (case c__law_same => k_is)
    (case k__law_same => k_is)
    (case a__law_all => k_is)
    (case l__law_all => k_is)
    (case c__law_all => k_is)
    (case k__law_all => k_is)
    (case a__law_number_octets => k_is)
    (case l__law_number_octets => k_is)
    (case c__law_number_octets => k_is)
    (case k__law_number_octets => k_is)
    (case a__law_sum => k_is)
    (case l__law_sum => k_is)
    (case c__law_sum => k_is)
    (case k__law_sum => k_is)
    (case a__law_framed => k_is)
    (case l__law_framed => k_is)
    (case c__law_framed => k_is)
    (case k__law_framed => k_is)
    (case a__law_joined => k_is)
    (case l__law_joined => k_is)
    (case c__law_joined => k_is)
    (case k__law_joined => k_is)
    (case a__law_octet => k_is)
    (case l__law_octet => k_is)
    (case c__law_octet => k_is)
    (case k__law_octet => k_is)
    (case a__law_some_body => k_is)
    (case l__law_some_body => k_is)
    (case c__law_some_body => k_is)
    (case k__law_some_body => k_is)
    (case a__law_bent => k_is)
    (case l__law_bent => k_is)
    (case c__law_bent => k_is)
    (case k__law_bent => k_is)
    (case a__law_number_at => k_is)
    (case l__law_number_at => k_is)
    (case c__law_number_at => k_is)
    (case k__law_number_at => k_is)
    (case a__law_frames_in => k_is)
    (case l__law_frames_in => k_is)
    (case c__law_frames_in => k_is)
    (case k__law_frames_in => k_is)
    (case a__law_due => k_is)
    (case l__law_due => k_is)
    (case c__law_due => k_is)
    (case k__law_due => k_is)
    (case a_law => k_is)
    (case l_law => k_is)
    (case c_law => k_is)
    (case k_law => k_is)
    (case zb_len => k_is)
    (case zb_list => k_is)
    (case zb_tuple => k_is)
    (case zb_int => k_is)
    (case zb_abs => k_is)
    (case zb_sum => k_is)
    (case zb_range => k_is)
    (case zb_enumerate => k_is)
    (case zb_zip => k_is)
    (case zb_isinstance => k_is)
    (case zb_str => k_is)
    (case zb_bool => k_is)
    (case zb_dict => k_is)
    (case zc_BASE => k_is)
    (case zc_OCTET => k_is)
    (case zc_PRIME => k_is)
    (case zc_SUM_OCTETS => k_is)
    (case zk_Answer => k_is)
    (case zi_Answer_NoneType => kit_is)
    (case zi_Answer_bool => kit_is)
    (case zi_Answer_int => kit_is)
    (case zi_Answer_str => kit_is)
    (case zi_Answer_list => kit_is)
    (case zi_Answer_tuple => kit_is)
#print axioms PySem.Challenge.cw_thoughsomelie_k78_frames_are_read_up_to_holds
