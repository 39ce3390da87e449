import PyProof.Rows.All
import HandS.Zip
import KE.GoesMore
import KE.GoesEnumKw
import PyProof.Rows.CallKw2
import PyProof.Rows.CallKwBuiltin
import HandS.Style
import KE.GoesEnum
import HandS.TupMul
import HandS.ForMost
import HandS.Wide
import HandS.TupAny
import HandS.SortInts
import HandS.IsInst
import HandS.Deep
import HandS.SetFor
import HandS.Strs
import HandS.Conv
import HandS.Dict
import HandS.Rev
import HandS.EndBits
import HandS.Codes
import PySem.Challenge.RW_bondroots_k18_rows_of_bonds
set_option Elab.async false
set_option linter.all false
set_option maxRecDepth 100000
section
set_option autoImplicit false
set_option maxHeartbeats 1000000
/-! TLZ: zip over any two of list and tuple, strict or not -/
namespace TZ
open PySem
/-- a source that is drawn from: its iterator it over the object l -/
structure Src (P : Program) (w : World) (A : Around) (it l : Addr) (xs : Array Value) (St : Nat → Heap → Prop) : Prop where
  more : ∀ (i : Nat) (s : Shared) (x : Value) (Q E : Value → Shared → Prop), St i s.heap → xs[i]? = some x → (∀ h', St (i + 1) h' → Heap.SameBut it s.heap h' → Q x { s with heap := h' }) →
    wpAny (model P w) A (Builtin.SmallTypes.nextOf (.ref it)) Q E s
  over : ∀ (i : Nat) (s : Shared) (Q E : Value → Shared → Prop), St i s.heap → xs[i]? = none → (∀ h' e, Heap.ExtBut it s.heap h' → (∃ o, h'.get? e = some o ∧ o.cls = .type "StopIteration") → E (.ref e) { s with heap := h' }) →
    wpAny (model P w) A (Builtin.SmallTypes.nextOf (.ref it)) Q E s
  keep : ∀ (i : Nat) (h h' : Heap), St i h → (∀ b o, b = it ∨ b = l → h.get? b = some o → h'.get? b = some o) → St i h'
  live : ∀ (i : Nat) (h : Heap), St i h → ∃ o, h.get? it = some o
section
variable {P : Program} {w : World} {A : Around} {it l : Addr} {xs : Array Value} {St : Nat → Heap → Prop}
theorem srcL (hh : A.handled = none) (hne : l ≠ it) : Src P w A it l xs (fun i h => h.IsListIter it l i ∧ h.IsList l xs) where
  more i s x Q E st hx k := wpAny_nextOf_list_item st.1 st.2 hx fun h' a b => k h' ⟨a, st.2.extBut b.extBut hne⟩ b
  over i s Q E st hx k := wpAny_nextOf_list_end hh st.1 st.2 hx k
  keep i h h' st k := ⟨st.1.at fun o e => k _ _ (.inl rfl) e, let ⟨o, e, r⟩ := st.2; ⟨o, k _ _ (.inr rfl) e, r⟩⟩
  live i h st := let ⟨o, e, _⟩ := st.1; ⟨o, e⟩
theorem srcT (hh : A.handled = none) (hne : l ≠ it) : Src P w A it l xs (fun i h => h.IsTupleIter it l i ∧ h.IsTuple l xs) where
  more i s x Q E st hx k := RZ.nextOf_tuple_item st.1 st.2 hx fun h' a b => k h' ⟨a, st.2.extBut b.extBut hne⟩ b
  over i s Q E st hx k := RZ.nextOf_tuple_end hh st.1 st.2 hx k
  keep i h h' st k := ⟨st.1.at fun o e => k _ _ (.inl rfl) e, let ⟨o, e, r⟩ := st.2; ⟨o, k _ _ (.inr rfl) e, r⟩⟩
  live i h st := let ⟨o, e, _⟩ := st.1; ⟨o, e⟩
theorem Src.more' (S : Src P w A it l xs St) {i : Nat} {s : Shared} {x : Value} {Q : Option Value → Shared → Prop} {E : Value → Shared → Prop} (st : St i s.heap) (hx : xs[i]? = some x) (k : ∀ h', St (i + 1) h' → Heap.SameBut it s.heap h' → Q (some x) { s with heap := h' }) :
    wpAny (model P w) A (Builtin.SmallTypes.nextOrEnd (.ref it)) Q E s := by
  unfold Builtin.SmallTypes.nextOrEnd
  exact wpAny_bind (wpAny_attempt (S.more i s x _ _ st hx fun h' a b => wpAny_pure (k h' a b)))
theorem Src.over' (S : Src P w A it l xs St) {i : Nat} {s : Shared} {Q : Option Value → Shared → Prop} {E : Value → Shared → Prop} (st : St i s.heap) (hx : xs[i]? = none) (k : ∀ h', Heap.ExtBut it s.heap h' → Q none { s with heap := h' }) :
    wpAny (model P w) A (Builtin.SmallTypes.nextOrEnd (.ref it)) Q E s := by
  unfold Builtin.SmallTypes.nextOrEnd
  refine wpAny_bind (wpAny_attempt (S.over i s _ _ st hx fun h' e a b => ?_))
  obtain ⟨o, ho, hc⟩ := b
  exact wpAny_bind (wpAny_isInstance (T := "StopIteration") (b := true) ⟨o, ho, hc⟩ isSubtype_stop (wpAny_pure (k h' a)))
end

abbrev ZipB (h : Heap) (z TI TO : Addr) (f0 : Value) (b : Bool) : Prop :=
  h.get? z = some { cls := .type "zip", data := .fields #[f0, .bool false, .bool b, .ref TI, .ref TO] }
/-- all that a zip of two is made of lies apart -/
structure Ap (z TI TO i1 i2 l1 l2 : Addr) : Prop where
  zp : ZipApart z TI TO i1 i2 l1 l2
  n1 : l2 ≠ i1
  n2 : l1 ≠ i2
section
variable {P : Program} {w : World} {A : Around} {z TI TO i1 i2 l1 l2 : Addr} {xs ys : Array Value} {S1 S2 : Nat → Heap → Prop} {b : Bool}
def ZD (b : Bool) (it : Value) : Sem (Option Value) := do if b then Builtin.SmallTypes.nextOrEnd it else return some (← Builtin.SmallTypes.nextOf it)
theorem ZD.more {it l : Addr} {xs : Array Value} {St : Nat → Heap → Prop} (S : Src P w A it l xs St) {i : Nat} {s : Shared} {x : Value} {Q : Option Value → Shared → Prop} {E : Value → Shared → Prop} (st : St i s.heap) (hx : xs[i]? = some x)
    (k : ∀ h', St (i + 1) h' → Heap.SameBut it s.heap h' → Q (some x) { s with heap := h' }) : wpAny (model P w) A (ZD b (.ref it)) Q E s := by
  cases b with
  | true => exact S.more' st hx k
  | false => exact wpAny_bind (S.more i s x _ _ st hx fun h' a c => wpAny_pure (k h' a c))
theorem next_more (D : Ap z TI TO i1 i2 l1 l2) (X : Src P w A i1 l1 xs S1) (Y : Src P w A i2 l2 ys S2) {k1 k2 : Nat} {s : Shared} {x y u v : Value} {Q E : Value → Shared → Prop}
    (hz : ZipB s.heap z TI TO .none b) (gI : IsPair s.heap TI (.ref i1) (.ref i2)) (gO : IsPair s.heap TO u v) (g1 : S1 k1 s.heap) (g2 : S2 k2 s.heap) (hx : xs[k1]? = some x) (hy : ys[k2]? = some y)
    (q : ∀ h', ZipB h' z TI TO (rawInt s.heap.objs.size) b → IsPair h' TO x y → S1 (k1 + 1) h' → S2 (k2 + 1) h' → IsPair h' s.heap.objs.size x y → h'.objs.size = s.heap.objs.size + 1 →
      (∀ c o, c ≠ z → c ≠ TO → c ≠ i1 → c ≠ i2 → s.heap.get? c = some o → h'.get? c = some o) → Q (.ref s.heap.objs.size) { s with heap := h' }) :
    wpAny (model P w) A (Builtin.«zip.__next__» ⟨[.ref z], []⟩) (fun f s' => ∃ r, f = .done (.ret r) ∧ Q r s') E s := by
  have dz := D.zp
  show wpAny _ _ (field (.ref z) 2 >>= _) _ _ _
  refine wpAny_bind (wpAny_field hz rfl (x := .bool b) rfl ?_)
  show wpAny _ _ (field (.ref z) 3 >>= _) _ _ _
  refine wpAny_bind (wpAny_field hz rfl (x := .ref TI) rfl (wpAny_bind (wpAny_seqItems gI rfl ?_)))
  show wpAny _ _ (Builtin.SmallTypes.ownedTupleIsFree (.ref z) >>= _) _ _ _
  refine wpAny_bind ?_
  unfold Builtin.SmallTypes.ownedTupleIsFree
  refine wpAny_bind (wpAny_field hz rfl (x := .none) rfl (wpAny_pure ?_))
  simp only [if_true]
  refine wpAny_bind (wpAny_rule (wpAny_bind (wpAny_field hz rfl (x := .ref TO) rfl (wpAny_bind (wpAny_setField_rec hz (by simp) fun a1 y1 e1 => ?_)))))
  replace y1 : ZipB a1 z TI TO .ellipsis b := y1
  refine wpAny_bind ?_
  simp only [List.zipIdx_cons, List.zipIdx_nil, List.forIn_cons, List.forIn_nil]
  have eb : ((Value.bool b == Value.bool true) : Bool) = b := by cases b <;> rfl
  refine wpAny_bind (wpAny_bind (wpAny_onRaise ?_))
  show wpAny _ _ (ZD (Value.bool b == Value.bool true) (.ref i1)) _ _ _
  rw [eb]
  have s11 : S1 k1 a1 := X.keep _ _ _ g1 fun c o hc e => by
    rcases hc with rfl | rfl
    · exact e1.extBut _ _ dz.i1z e
    · exact e1.extBut _ _ dz.l1z e
  refine ZD.more X (s := { s with heap := a1 }) s11 hx fun a2 s12 e2 => ?_
  have o2 : IsPair a2 TO u v := e2.extBut _ _ dz.TOi1 (e1.extBut _ _ dz.TOz gO)
  refine wpAny_bind (wpAny_seqItems o2 rfl (wpAny_bind (wpAny_updateSeq_pair o2 fun a3 o3 e3 => ?_)))
  replace o3 : IsPair a3 TO x v := o3
  refine wpAny_bind (wpAny_letGo (wpAny_pure (wpAny_bind (wpAny_bind (wpAny_onRaise ?_)))))
  show wpAny _ _ (ZD b (.ref i2)) _ _ _
  have up3 : ∀ c o, c ≠ z → c ≠ TO → c ≠ i1 → s.heap.get? c = some o → a3.get? c = some o := fun c o n1 n2 n3 e => e3.extBut _ _ n2 (e2.extBut _ _ n3 (e1.extBut _ _ n1 e))
  have s21 : S2 k2 a3 := Y.keep _ _ _ g2 fun c o hc e => by
    rcases hc with rfl | rfl
    · exact up3 _ _ dz.i2z dz.TOi2.symm dz.i12.symm e
    · exact up3 _ _ dz.l2z dz.l2TO dz.l2i1 e
  refine ZD.more Y (s := { s with heap := a3 }) s21 hy fun a4 s22 e4 => ?_
  have o4 : IsPair a4 TO x v := e4.extBut _ _ dz.TOi2 o3
  refine wpAny_bind (wpAny_seqItems o4 rfl (wpAny_bind (wpAny_updateSeq_pair o4 fun a5 o5 e5 => ?_)))
  replace o5 : IsPair a5 TO x y := o5
  refine wpAny_bind (wpAny_letGo (wpAny_pure (wpAny_pure (wpAny_bind (wpAny_seqItems o5 rfl (wpAny_bind (wpAny_newTuple ?_)))))))
  have z5 : a5.objs.size = s.heap.objs.size := by rw [e5.1, e4.1, e3.1, e2.1, e1.1]
  have y5 : ZipB a5 z TI TO .ellipsis b := e5.extBut _ _ dz.TOz.symm (e4.extBut _ _ dz.i2z.symm (e3.extBut _ _ dz.TOz.symm (e2.extBut _ _ dz.i1z.symm y1)))
  have up5 : ∀ c o, c ≠ z → c ≠ TO → c ≠ i1 → c ≠ i2 → s.heap.get? c = some o → a5.get? c = some o := fun c o n1 n2 n3 n4 e => e5.extBut _ _ n2 (e4.extBut _ _ n4 (up3 _ _ n1 n2 n3 e))
  have s15 : S1 (k1 + 1) a5 := X.keep _ _ _ s12 fun c o hc e => by
    rcases hc with rfl | rfl
    · exact e5.extBut _ _ dz.TOi1.symm (e4.extBut _ _ dz.i12 (e3.extBut _ _ dz.TOi1.symm e))
    · exact e5.extBut _ _ dz.l1TO (e4.extBut _ _ D.n2 (e3.extBut _ _ dz.l1TO e))
  have s25 : S2 (k2 + 1) a5 := Y.keep _ _ _ s22 fun c o hc e => by
    rcases hc with rfl | rfl
    · exact e5.extBut _ _ dz.TOi2.symm e
    · exact e5.extBut _ _ dz.l2TO e
  have lz : z < a5.objs.size := Heap.lt_size y5
  show wpAny _ _ (Builtin.SmallTypes.ownedTupleHandOut (.ref z) (.ref a5.objs.size) >>= _) _ _ _
  refine wpAny_bind ?_
  unfold Builtin.SmallTypes.ownedTupleHandOut
  have y6 : ZipB (a5.push { cls := .type "tuple", data := .seq #[x, y] }) z TI TO .ellipsis b := Heap.get?_push_of_some _ y5
  refine wpAny_bind (wpAny_setField_rec y6 (by simp) fun a7 y7 e7 => ?_)
  replace y7 : ZipB a7 z TI TO (rawInt a5.objs.size) b := y7
  refine wpAny_setField_rec y7 (by simp) fun a8 y8 e8 => ?_
  replace y8 : ZipB a8 z TI TO (rawInt a5.objs.size) b := y8
  have up8 : ∀ c o, c ≠ z → a5.get? c = some o → a8.get? c = some o := fun c o n1 e => e8.extBut _ _ n1 (e7.extBut _ _ n1 (Heap.get?_push_of_some _ e))
  have t8 : IsPair a8 a5.objs.size x y := e8.extBut _ _ (Nat.ne_of_gt lz) (e7.extBut _ _ (Nat.ne_of_gt lz) (Heap.get?_push_size _ rfl))
  have z8 : a8.objs.size = a5.objs.size + 1 := by rw [e8.1, e7.1, Heap.size_push]
  rw [z5] at y8 t8 z8
  refine wpAny_pure ⟨_, rfl, ?_⟩
  show Q (.ref a5.objs.size) _
  rw [z5]
  refine q a8 y8 (up8 _ _ dz.TOz o5) (X.keep _ _ _ s15 fun c o hc e => up8 _ _ ?_ e) (Y.keep _ _ _ s25 fun c o hc e => up8 _ _ ?_ e) t8 z8 fun c o n1 n2 n3 n4 e => up8 c o n1 (up5 c o n1 n2 n3 n4 e)
  · rcases hc with rfl | rfl
    · exact dz.i1z
    · exact dz.l1z
  · rcases hc with rfl | rfl
    · exact dz.i2z
    · exact dz.l2z

/-! ### the end -/
def zbf (i : Nat) : String := if i == 1 then "argument 1" else s!"arguments 1-{i}"
def ZSE (us : List Value) (i : Nat) : Sem Fin := do
  if i > 0 then
    rule "zip.__next__.shorter"
    raiseError "ValueError" (s!"zip() argument {i + 1} is shorter than {zbf i}")
  for (u, j) in List.zipIdx (us.drop 1) 1 do
    let r ← Builtin.SmallTypes.nextOrEnd u
    if r.isSome then
      rule "zip.__next__.longer"
      raiseError "ValueError" (s!"zip() argument {j + 1} is longer than {zbf j}")
  rule "zip.__next__.all-ended"
  Builtin.SmallTypes.stopIteration
theorem stops {α : Type} {s : Shared} {Q : α → Shared → Prop} {E : Value → Shared → Prop} (hh : A.handled = none)
    (k : ∀ h' e, (∀ c o, s.heap.get? c = some o → h'.get? c = some o) → (∃ o, h'.get? e = some o ∧ o.cls = .type "StopIteration") → s.heap.objs.size ≤ e → E (.ref e) { s with heap := h' }) :
    wpAny (model P w) A (Builtin.SmallTypes.stopIteration (α := α)) Q E s := by
  show wpAny _ _ (newExc (.type "StopIteration") [] >>= _) _ _ _
  refine wpAny_bind ?_
  simp only [newExc, newTuple]
  refine wpAny_bind (wpAny_newObj_type ?_ (by size_fits))
  refine wpAny_bind (m := firstArgMember _ _) (wpAny_of_eq (a := Value.none) (by first | rfl | (simp only [firstArgMember]; rfl)) ?_)
  refine wpAny_newObj_type ?_ (by size_fits)
  simp only [raiseNew]
  refine wpAny_bind (wpAny_handled ?_)
  first | rw [show A.in1.handled = none from hh] | rw [hh]
  refine wpAny_bind (wpAny_pure (wpAny_throw ?_))
  exact k _ _ (fun c o e => Heap.get?_push_of_some _ (Heap.get?_push_of_some _ e)) ⟨_, Heap.get?_push_size _ rfl, rfl⟩ (by rw [Heap.size_push]; omega)
def ZEnd (b : Bool) (xs ys : Array Value) (k1 k2 : Nat) : Prop := if b = true then xs[k1]? = none ∧ ys[k2]? = none else xs[k1]? = none ∨ ys[k2]? = none
theorem next_end (hh : A.handled = none) (D : Ap z TI TO i1 i2 l1 l2) (X : Src P w A i1 l1 xs S1) (Y : Src P w A i2 l2 ys S2) {k1 k2 : Nat} {s : Shared} {u v : Value} {Q : Fin → Shared → Prop} {E : Value → Shared → Prop}
    (hz : ZipB s.heap z TI TO .none b) (gI : IsPair s.heap TI (.ref i1) (.ref i2)) (gO : IsPair s.heap TO u v) (g1 : S1 k1 s.heap) (g2 : S2 k2 s.heap) (he : ZEnd b xs ys k1 k2)
    (q : ∀ h' e, (∀ c o, c ≠ z → c ≠ TO → c ≠ i1 → c ≠ i2 → s.heap.get? c = some o → h'.get? c = some o) → (∃ o, h'.get? e = some o ∧ o.cls = .type "StopIteration") → E (.ref e) { s with heap := h' }) :
    wpAny (model P w) A (Builtin.«zip.__next__» ⟨[.ref z], []⟩) Q E s := by
  have dz := D.zp
  show wpAny _ _ (field (.ref z) 2 >>= _) _ _ _
  refine wpAny_bind (wpAny_field hz rfl (x := .bool b) rfl ?_)
  show wpAny _ _ (field (.ref z) 3 >>= _) _ _ _
  refine wpAny_bind (wpAny_field hz rfl (x := .ref TI) rfl (wpAny_bind (wpAny_seqItems gI rfl ?_)))
  show wpAny _ _ (Builtin.SmallTypes.ownedTupleIsFree (.ref z) >>= _) _ _ _
  refine wpAny_bind ?_
  unfold Builtin.SmallTypes.ownedTupleIsFree
  refine wpAny_bind (wpAny_field hz rfl (x := .none) rfl (wpAny_pure ?_))
  simp only [if_true]
  refine wpAny_bind (wpAny_rule (wpAny_bind (wpAny_field hz rfl (x := .ref TO) rfl (wpAny_bind (wpAny_setField_rec hz (by simp) fun a1 y1 e1 => ?_)))))
  replace y1 : ZipB a1 z TI TO .ellipsis b := y1
  refine wpAny_bind ?_
  simp only [List.zipIdx_cons, List.zipIdx_nil, List.forIn_cons, List.forIn_nil]
  have eb : ((Value.bool b == Value.bool true) : Bool) = b := by cases b <;> rfl
  refine wpAny_bind (wpAny_bind (wpAny_onRaise ?_))
  show wpAny _ _ (ZD (Value.bool b == Value.bool true) (.ref i1)) _ _ _
  rw [eb]
  have s11 : S1 k1 a1 := X.keep _ _ _ g1 fun c o hc e => by
    rcases hc with rfl | rfl
    · exact e1.extBut _ _ dz.i1z e
    · exact e1.extBut _ _ dz.l1z e
  have s21 : S2 k2 a1 := Y.keep _ _ _ g2 fun c o hc e => by
    rcases hc with rfl | rfl
    · exact e1.extBut _ _ dz.i2z e
    · exact e1.extBut _ _ dz.l2z e
  cases b with
  | true =>
    have he' : xs[k1]? = none ∧ ys[k2]? = none := he
    refine X.over' (s := { s with heap := a1 }) s11 he'.1 fun a2 e2 => ?_
    have y2 : ZipB a2 z TI TO .ellipsis true := e2 _ _ dz.i1z.symm y1
    refine wpAny_bind (wpAny_setField_rec y2 (by simp) fun a3 y3 e3 => ?_)
    show wpAny _ _ (ZSE [.ref i1, .ref i2] 0 >>= _) _ _ _
    refine wpAny_bind ?_
    unfold ZSE
    simp only [List.drop_succ_cons, List.drop_zero, List.zipIdx_cons, List.zipIdx_nil, List.forIn_cons, List.forIn_nil, gt_iff_lt, Nat.lt_irrefl, if_false]
    have s23 : S2 k2 a3 := Y.keep _ _ _ s21 fun c o hc e => by
      rcases hc with rfl | rfl
      · exact e3.extBut _ _ dz.i2z (e2 _ _ dz.i12.symm e)
      · exact e3.extBut _ _ dz.l2z (e2 _ _ dz.l2i1 e)
    refine wpAny_bind (wpAny_bind (wpAny_bind (Y.over' (s := { s with heap := a3 }) s23 he'.2 fun a4 e4 => ?_)))
    simp only [Option.isSome_none, Bool.false_eq_true, if_false]
    refine wpAny_pure (wpAny_pure (wpAny_bind (wpAny_rule (stops hh fun h' e k1 k2 _ => q h' e (fun c o c1 c2 c3 c4 z1 => k1 _ _ (e4 _ _ c4 (e3.extBut _ _ c1 (e2 _ _ c3 (e1.extBut _ _ c1 z1))))) k2))))
  | false =>
    have he' : xs[k1]? = none ∨ ys[k2]? = none := he
    refine wpAny_bind ?_
    cases hx : xs[k1]? with
    | none =>
      refine X.over _ { s with heap := a1 } _ _ s11 hx fun a2 e e2 ge => ?_
      obtain ⟨oe, hoe, hce⟩ := ge
      have y2 : ZipB a2 z TI TO .ellipsis false := e2 _ _ dz.i1z.symm y1
      have hez : e ≠ z := fun x => by subst x; rw [y2] at hoe; cases hoe; simp at hce
      exact wpAny_setField_rec y2 (by simp) fun a3 _ e3 => q a3 e (fun c o c1 _ c3 _ x => e3.extBut _ _ c1 (e2 _ _ c3 (e1.extBut _ _ c1 x))) ⟨oe, e3.extBut _ _ hez hoe, hce⟩
    | some x =>
      have hy : ys[k2]? = none := by rcases he' with h | h; rw [hx] at h; cases h; exact h
      refine X.more _ { s with heap := a1 } _ _ _ s11 hx fun a2 s12 e2 => wpAny_pure ?_
      have o2 : IsPair a2 TO u v := e2.extBut _ _ dz.TOi1 (e1.extBut _ _ dz.TOz gO)
      refine wpAny_bind (wpAny_seqItems o2 rfl (wpAny_bind (wpAny_updateSeq_pair o2 fun a3 o3 e3 => ?_)))
      refine wpAny_bind (wpAny_letGo (wpAny_pure (wpAny_bind (wpAny_bind (wpAny_onRaise ?_)))))
      show wpAny _ _ (ZD false (.ref i2)) _ _ _
      refine wpAny_bind ?_
      have s23 : S2 k2 a3 := Y.keep _ _ _ s21 fun c o hc e => by
        rcases hc with rfl | rfl
        · exact e3.extBut _ _ dz.TOi2.symm (e2.extBut _ _ dz.i12.symm e)
        · exact e3.extBut _ _ dz.l2TO (e2.extBut _ _ dz.l2i1 e)
      refine Y.over _ { s with heap := a3 } _ _ s23 hy fun a4 e e4 ge => ?_
      obtain ⟨oe, hoe, hce⟩ := ge
      have y4 : ZipB a4 z TI TO .ellipsis false := e4 _ _ dz.i2z.symm (e3.extBut _ _ dz.TOz.symm (e2.extBut _ _ dz.i1z.symm y1))
      have hez : e ≠ z := fun x => by subst x; rw [y4] at hoe; cases hoe; simp at hce
      exact wpAny_setField_rec y4 (by simp) fun a5 _ e5 => q a5 e (fun c o c1 c2 c3 c4 x => e5.extBut _ _ c1 (e4 _ _ c4 (e3.extBut _ _ c2 (e2.extBut _ _ c3 (e1.extBut _ _ c1 x))))) ⟨oe, e5.extBut _ _ hez hoe, hce⟩
theorem py_more (D : Ap z TI TO i1 i2 l1 l2) (X : Src P w A.in1 i1 l1 xs S1) (Y : Src P w A.in1 i2 l2 ys S2) {k1 k2 : Nat} {s : Shared} {x y u v : Value} {Q : Option Value → Shared → Prop} {E : Value → Shared → Prop}
    (hz : ZipB s.heap z TI TO .none b) (gI : IsPair s.heap TI (.ref i1) (.ref i2)) (gO : IsPair s.heap TO u v) (g1 : S1 k1 s.heap) (g2 : S2 k2 s.heap) (hx : xs[k1]? = some x) (hy : ys[k2]? = some y)
    (q : ∀ h', ZipB h' z TI TO (rawInt s.heap.objs.size) b → IsPair h' TO x y → S1 (k1 + 1) h' → S2 (k2 + 1) h' → IsPair h' s.heap.objs.size x y → h'.objs.size = s.heap.objs.size + 1 →
      (∀ c o, c ≠ z → c ≠ TO → c ≠ i1 → c ≠ i2 → s.heap.get? c = some o → h'.get? c = some o) → Q (some (.ref s.heap.objs.size)) { s with heap := h' }) :
    wpAny (model P w) A (pyNext (.ref z)) Q E s := by
  have hT : s.TypeIs (.ref z) "zip" := ⟨_, hz, rfl⟩
  unfold pyNext
  exact wpAny_bind (wpAny_attempt (wpAny_callSpecial?_slot (name := Str.ofString "__next__") hT F.slot_zip_next (wpAny_call_entry F.slot_zip_next hT F.entry_zip_next
    (next_more D X Y hz gI gO g1 g2 hx hy fun h' c1 c2 c3 c4 c5 c6 c7 => wpAny_pure (q h' c1 c2 c3 c4 c5 c6 c7)) (F.args_zip_next_1 _))))
theorem py_end (hh : A.handled = none) (D : Ap z TI TO i1 i2 l1 l2) (X : Src P w A.in1 i1 l1 xs S1) (Y : Src P w A.in1 i2 l2 ys S2) {k1 k2 : Nat} {s : Shared} {u v : Value} {Q : Option Value → Shared → Prop} {E : Value → Shared → Prop}
    (hz : ZipB s.heap z TI TO .none b) (gI : IsPair s.heap TI (.ref i1) (.ref i2)) (gO : IsPair s.heap TO u v) (g1 : S1 k1 s.heap) (g2 : S2 k2 s.heap) (he : ZEnd b xs ys k1 k2)
    (q : ∀ h', (∀ c o, c ≠ z → c ≠ TO → c ≠ i1 → c ≠ i2 → s.heap.get? c = some o → h'.get? c = some o) → Q none { s with heap := h' }) :
    wpAny (model P w) A (pyNext (.ref z)) Q E s := by
  have hT : s.TypeIs (.ref z) "zip" := ⟨_, hz, rfl⟩
  unfold pyNext
  refine wpAny_bind (wpAny_attempt (wpAny_callSpecial?_slot (name := Str.ofString "__next__") hT F.slot_zip_next (wpAny_call_entry F.slot_zip_next hT F.entry_zip_next
    (next_end (A := A.in1) hh D X Y hz gI gO g1 g2 he fun h' e hk ge => ?_) (F.args_zip_next_1 _))))
  obtain ⟨o, ho, hc⟩ := ge
  exact wpAny_bind (wpAny_isInstance (T := "StopIteration") (b := true) ⟨o, ho, hc⟩ isSubtype_stop (wpAny_pure (q _ hk)))
theorem letGo_zip {elts : List Expr} {x1} {pos : Pos} {T : Addr} {s : Shared} {Q : Unit → Shared → Prop} {E : Value → Shared → Prop} (hz : ZipB s.heap z TI TO (rawInt T) b)
    (k : ∀ h', ZipB h' z TI TO .none b → Heap.SameBut z s.heap h' → Q () { s with heap := h' }) :
    wpAny (model P w) A (letOwnedTupleGo (.Tuple elts x1 pos) (.ref z) (.ref T)) Q E s := by
  unfold letOwnedTupleGo
  refine wpAny_bind (wpAny_load hz ?_)
  show wpAny _ _ (if (["enumerate", "zip", "dict_itemiterator", "dict_reverseitemiterator", "odict_iterator", "itertools.zip_longest", "itertools.pairwise"].contains "zip"
      && (#[rawInt T, .bool false, .bool b, .ref TI, .ref TO] : Array Value)[0]? == some (rawInt T)) = true then _ else _) Q E s
  rw [if_pos (by simp)]
  refine wpAny_bind (wpAny_rule ?_)
  show wpAny _ _ (setField (.ref z) 0 .none) Q E s
  exact wpAny_setField_rec hz (by simp) fun h' y1 e1 => k h' y1 e1
theorem iter_zip {f0 : Value} {s : Shared} {Q : Value → Shared → Prop} {E : Value → Shared → Prop} (hz : ZipB s.heap z TI TO f0 b) (h : Q (.ref z) s) : wpAny (model P w) A (pyIter (.ref z)) Q E s := by
  have hT : s.TypeIs (.ref z) "zip" := ⟨_, hz, rfl⟩
  refine wpAny_pyIter_slot hT F.slot_zip_iter (wpAny_call_entry F.slot_zip_iter hT F.entry_zip_iter ?_ (F.args_zip_iter_1 _))
  show wpAny _ _ (ret (.ref z)) _ _ s
  exact wpAny_pure ⟨_, rfl, "zip", _, hT, F.slot_zip_next.lookup, h⟩
end

/-! ### zip(a, b, strict=..) -/
abbrev kwS : Str := "strict"
theorem typeCall (a b : Value) (c : Bool) : checkTypeCall "zip" ⟨[a, b], [(kwS, .bool c)]⟩ = pure () := by kernel_rfl
theorem newCall (a b : Value) (c : Bool) : checkBuiltinCall "zip.__new__" ⟨[.type "zip", a, b], [(kwS, .bool c)]⟩ = pure () := by kernel_rfl
theorem argsInit (obj a b : Value) (c : Bool) : argsOk "object.__init__" ⟨[obj, a, b], [(kwS, .bool c)]⟩ := by unfold argsOk; kernel_rfl
abbrev z2 (h : Heap) (o1 o2 : Obj) (b : Bool) : Heap := (gzO2 h o1 o2).push { cls := .type "zip", data := .fields #[.none, .bool false, .bool b, .ref ((h.push o1).push o2).objs.size, .ref (gzT2 h o1 o2).objs.size] }
theorem meetsKw {v1 v2 : Value} {o1 o2 : Obj} {H1 H2 : Heap → Prop} (b : Bool) (B1 : Begins v1 o1 H1) (B2 : Begins v2 o2 H2) :
    Meets (Builtin.«zip.__new__» ⟨[.type "zip", v1, v2], [(kwS, .bool b)]⟩) (fun _ R s => (H1 s.heap ∧ H2 s.heap) ∧
      R (.ok (.ret (.ref (gzO2 s.heap o1 o2).objs.size))) { s with heap := z2 s.heap o1 o2 b }) :=
  .of_wp fun prog w A R s h => by
    obtain ⟨hp, g, d, tk, os⟩ := s; obtain ⟨⟨h1, h2⟩, h⟩ := h
    have hsub := sub_zip
    have e2 : (kwS != ("strict" : Str)) = false := by decide +kernel
    have q1 : ∀ {A' : Around} {E : Value → Shared → Prop} {Q : Value → Shared → Prop}, Q (.ref hp.objs.size) ⟨(hp.push o1), g, d, tk, os⟩ → wpAny (model prog w) A' (pyIter v1) Q E ⟨hp, g, d, tk, os⟩ :=
      fun q => B1.iter prog w _ _ ⟨hp, g, d, tk, os⟩ _ (B1.keeps _ _ h1 fun b o' e => e) q
    have q2 : ∀ {A' : Around} {E : Value → Shared → Prop} {Q : Value → Shared → Prop}, Q (.ref (hp.push o1).objs.size) ⟨((hp.push o1).push o2), g, d, tk, os⟩ → wpAny (model prog w) A' (pyIter v2) Q E ⟨(hp.push o1), g, d, tk, os⟩ :=
      fun q => B2.iter prog w _ _ ⟨(hp.push o1), g, d, tk, os⟩ _ (B2.keeps _ _ h2 fun b o' e => (Heap.get?_push_of_some _ e)) q
    cases b <;> (wp_walk using q1, q2; exact ⟨_, rfl, h⟩)
end TZ
end
section
set_option autoImplicit false
set_option maxHeartbeats 1000000
/-! TLR: xs[::-1], of lists and tuples -/
namespace TZ
open PySem PySem.Spec PyProof.Rows L2
theorem adjust_rev (n : Nat) : Builtin.Slice.sliceAdjust none none (-1) (n : Int) = ((n : Int) - 1, -1) := by
  unfold Builtin.Slice.sliceAdjust
  simp
theorem places_rev (n : Nat) : Builtin.Slice.slicePlaces ((n : Int) - 1) (-1) (-1) = n := by
  unfold Builtin.Slice.slicePlaces
  by_cases h : n = 0
  · subst h; decide
  · have h2 : ((n : Int) - 1 > -1) := by omega
    simp [h2]
theorem pick_rev (xs : Array Value) : ((List.range xs.size).filterMap fun (m : Nat) => xs[(((xs.size : Int) - 1) + (m : Int) * (-1)).toNat]?).toArray = xs.toList.reverse.toArray := by
  congr 1
  have e : (List.range xs.size).filterMap (fun (m : Nat) => xs[(((xs.size : Int) - 1) + (m : Int) * (-1)).toNat]?) = (List.range xs.size).filterMap (fun m => (fun k => xs[k]?) (xs.size - 1 - m)) := by
    have cg : ∀ (l : List Nat) (f g : Nat → Option Value), (∀ m ∈ l, f m = g m) → l.filterMap f = l.filterMap g := by
      intro l f g h
      induction l with
      | nil => rfl
      | cons a l ih => rw [List.filterMap_cons, List.filterMap_cons, h a List.mem_cons_self, ih fun m hm => h m (List.mem_cons_of_mem _ hm)]
    refine cg _ _ _ fun m hm => ?_
    have := List.mem_range.mp hm
    have e2 : (((xs.size : Int) - 1) + (m : Int) * (-1)).toNat = xs.size - 1 - m := by omega
    rw [e2]
  rw [e]
  have e3 : (List.range xs.size).filterMap (fun m => (fun k => xs[k]?) (xs.size - 1 - m)) = ((List.range xs.size).map (fun m => xs.size - 1 - m)).filterMap (fun k => xs[k]?) := by rw [List.filterMap_map]; rfl
  rw [e3, PySem.W.krv_range, List.filterMap_reverse, PySem.W.krv_all]
section
variable {prog : Program} {w : World} {A : Around} {E : Value → Shared → Prop} {s : Shared}
theorem applied_rev {sl : Addr} {vl vu vs : Value} {n : Nat} {Q : Int × Int × Nat → Shared → Prop} (hs : s.heap.IsSliceOf sl vl vu vs) (pl : IsPart vl none) (pu : IsPart vu none) (ps : IsPart vs (some (-1)))
    (h : Q ((n : Int) - 1, -1, n) s) : wpAny (model prog w) A (Builtin.Slice.sliceApplied (.ref sl) (pure (n : Int))) Q E s := by
  obtain ⟨os, hos, hcs, hds⟩ := id hs
  unfold Builtin.Slice.sliceApplied Builtin.Slice.sliceFields
  refine wpAny_bind (wpAny_bind (wpAny_field hos hds (x := vl) rfl (wpAny_bind (wpAny_field hos hds (x := vu) rfl (wpAny_bind (wpAny_field hos hds (x := vs) rfl (wpAny_pure ?_)))))))
  refine wpAny_bind (HT.slicePart_ ps ?_)
  show wpAny _ _ (if ((-1 : Int) == 0) = true then _ else _) _ _ s
  rw [if_neg (by decide)]
  refine wpAny_bind (HT.slicePart_ pl (wpAny_bind (HT.slicePart_ pu (wpAny_bind (wpAny_pure ?_)))))
  show wpAny _ _ (match Builtin.Slice.sliceAdjust none none (-1) (n : Int) with | (lo, hi) => pure (lo, (-1 : Int), Builtin.Slice.slicePlaces lo hi (-1))) _ _ s
  rw [adjust_rev n]
  show wpAny _ _ (pure ((n : Int) - 1, (-1 : Int), Builtin.Slice.slicePlaces ((n : Int) - 1) (-1) (-1))) _ _ s
  rw [places_rev]
  exact wpAny_pure h
theorem get_rev {t sl : Addr} {items : Array Value} {vl vu vs : Value} {Q : Value → Shared → Prop} (ht : IsTup s.heap t items) (hs : s.heap.IsSliceOf sl vl vu vs) (pl : IsPart vl none) (pu : IsPart vu none) (ps : IsPart vs (some (-1)))
    (h : Q (.ref s.heap.objs.size) { s with heap := s.heap.push { cls := .type "tuple", data := .seq items.toList.reverse.toArray } })
    (hsz : items.size ≤ sizeLine) : wpAny (model prog w) A (getItem (.ref t) (.ref sl)) Q E s := by
  have htake : sizeOk (.seq items.toList.reverse.toArray) := by
    show items.toList.reverse.toArray.size ≤ sizeLine
    rw [List.size_toArray, List.length_reverse, Array.length_toList]
    exact hsz
  obtain ⟨os, hos, hcs, hds⟩ := id hs
  have hTs : s.TypeIs (.ref sl) "slice" := ⟨os, hos, hcs⟩
  unfold getItem
  try with_reducible refine wpAny_holding ?_
  first | refine wpAny_bind (wpAny_pure ?_) | skip
  refine wpAny_bind (wpAny_sequenceKey ht.typeIs (by decide) ?_)
  refine wpAny_bind (wpAny_callSpecial?_slot (name := Str.ofString "__getitem__") ht.typeIs PyProof.Rows.slot_tuple_getitem
    (wpAny_call_entry PyProof.Rows.slot_tuple_getitem ht.typeIs entry_tuple_getitem ?_ (args_tuple_getitem _ _)))
  show wpAny _ _ (Builtin.Tuple.tupleItemsOf (.ref t) >>= _) _ _ s
  refine wpAny_bind (PyProof.Rows.tupleItemsOf_ ht ?_)
  refine wpAny_bind (wpAny_typeOf hTs ?_)
  rw [if_pos (by decide)]
  refine wpAny_bind (applied_rev (n := items.size) hs pl pu ps ?_)
  have hno : ¬ ((((items.size : Int) - 1) == 0 && (-1 : Int) == 1 && items.size == items.size) = true) := by
    intro q
    rw [Bool.and_eq_true, Bool.and_eq_true] at q
    exact absurd q.1.2 (by decide)
  show wpAny _ _ (if (((items.size : Int) - 1) == 0 && (-1 : Int) == 1 && items.size == items.size) = true then _ else _) _ _ s
  rw [if_neg hno, pick_rev]
  first
    | exact wpAny_bind (m := Builtin.Tuple.tupleExact _) (wpAny_newObj_type (wpAny_pure ⟨_, rfl, wpAny_pure h⟩) htake)
    | exact wpAny_bind (m := Builtin.Tuple.tupleExact _) (wpAny_newObj_type (wpAny_bind (wpAny_pure (wpAny_pure ⟨_, rfl, wpAny_pure h⟩))) htake)
    | exact wpAny_bind (wpAny_bind (m := Builtin.Tuple.tupleExact _) (wpAny_newObj_type (wpAny_pure (wpAny_pure ⟨_, rfl, wpAny_pure h⟩)) htake))
    | exact wpAny_bind (wpAny_bind (m := Builtin.Tuple.tupleExact _) (wpAny_newObj_type (wpAny_pure ⟨_, rfl, wpAny_pure h⟩) htake))
end
/-- xs[::-1] -/
def tRev (K : PySem.W.Frag) (te : TE) : TE := fun σ H Q => te σ H fun x H1 => ∃ a xs, x = .ref a ∧ ((SqL K H1 a xs ∧ ∀ p, H1 p = none → Q (.ref p) (upd H1 p (.lst xs.reverse))) ∨ (SqT K H1 a xs ∧ ∀ p, H1 p = none → Q (.ref p) (upd H1 p (.tup xs.reverse))))
theorem pe_rev {X : Cx} {e : Expr} {te : TE} {k : Nat} {p1 p2 p3 pos : Pos} (he : PE X e te) : PE X (.Subscript e (.Slice none none (some (.UnaryOp .USub (.Constant (.int 1) k p1) p2)) p3) pos) (tRev X.K te) := by
  refine ⟨fun pins s σ H Q I h => ?_⟩
  refine Subscript_ (thn (he.run pins s σ H _ I h) fun v s1 ⟨x, H1, I1, r1, q1⟩ => ?_)
  obtain ⟨a, xs, ex, q⟩ := q1
  subst ex
  cases r1
  have hst : PO X (some (.UnaryOp .USub (.Constant (.int 1) k p1) p2)) (tPart (tUn (rU fun i => .int (-i)) (tC (.int 1)))) := po_some (pe_un un_neg pe_int)
  refine wpAny_Slice (thn (po_none.run pins s1 σ H1 (fun o H2 => o = none ∧ H2 = H1) I1 ⟨rfl, rfl⟩) fun vl s2 ⟨l, H2, I2, pl, el, e2⟩ => ?_)
  subst el e2
  refine thn (po_none.run pins s2 σ H2 (fun o H3 => o = none ∧ H3 = H2) I2 ⟨rfl, rfl⟩) fun vu s3 ⟨u, H3, I3, pu, eu, e3⟩ => ?_
  subst eu e3
  refine thn (hst.run pins s3 σ H3 (fun o H4 => o = some (-1) ∧ H4 = H3) I3 ⟨1, rfl, -1, rfl, rfl, rfl⟩) fun vs s4 ⟨o, H4, I4, ps, eo, e4⟩ => ?_
  subst eo e4
  have I5 : Inv X pins σ H4 { s4 with heap := s4.heap.push { cls := .type "slice", data := .fields #[vl, vu, vs] } } := I4.kept (t' := s4.toks) fun b ob q => Heap.get?_push_of_some _ q
  show wpAny (model X.prog X.w) X.A (subscriptTail e (.Slice none none (some (.UnaryOp .USub (.Constant (.int 1) k p1) p2)) p3) (.ref a) (.ref s4.heap.objs.size)) (EP X pins σ Q) X.xe { s4 with heap := s4.heap.push { cls := .type "slice", data := .fields #[vl, vu, vs] } }
  rcases q with ⟨hx, q⟩ | ⟨hx, q⟩
  · obtain ⟨its, r, ht, hz⟩ := I5.list hx
    have hlen := r.length
    refine tail_any (ops := [.ref a, .ref s4.heap.objs.size]) ht.isList.typeIs (PySem.slot_list_getitem.lookup) ?_ (by with_unfolding_all rfl)
    refine wpAny_getItem_list_slice ht.isList (Heap.IsSliceOf.new _ vl vu vs) pl pu ps (by decide) ?_ (by rw [List.size_toArray]; omega)
    rw [PySem.W.krv_pick]
    refine ⟨.ref _, _, I5.laid (t' := s4.toks) (o := .lst xs.reverse) (fun b ob q => Heap.get?_push_of_some _ q) (Nat.le_refl _) ?_, rfl, q _ (I5.hok.fresh (Nat.le_refl _))⟩
    exact ⟨by rw [List.length_reverse]; exact hz, _, 0, r.reverse, Heap.get?_push_size _ rfl⟩
  · obtain ⟨its, r, ht, hz⟩ := I5.tuple hx
    have hlen := r.length
    refine tail_any (ops := [.ref a, .ref s4.heap.objs.size]) ht.typeIs (PyProof.Rows.slot_tuple_getitem.lookup) ?_ (by with_unfolding_all rfl)
    refine get_rev ht (Heap.IsSliceOf.new _ vl vu vs) pl pu ps ?_ (by rw [List.size_toArray, ← hlen]; exact hz)
    refine ⟨.ref _, _, I5.laid (t' := s4.toks) (o := .tup xs.reverse) (fun b ob q => Heap.get?_push_of_some _ q) (Nat.le_refl _) ?_, rfl, q _ (I5.hok.fresh (Nat.le_refl _))⟩
    exact ⟨by rw [List.length_reverse]; exact hz, _, r.reverse, IsTup.new _ _⟩
end TZ
end
section
set_option autoImplicit false
set_option maxHeartbeats 1000000
/-! TLY: zip and enumerate over lists and tuples, as what is walked -/
namespace TZ
open PySem PySem.Spec PyProof.Rows L2
/-- a tuple (true) or a list -/
def SqB (K : PySem.W.Frag) (t : Bool) (H : Hp) (a : Addr) (xs : List V) : Prop := match t with
  | true => SqT K H a xs
  | false => SqL K H a xs
def ItS (t : Bool) (it l : Addr) (i : Nat) (h : Heap) : Prop := match t with
  | true => h.IsTupleIter it l i
  | false => h.IsListIter it l i
def IsS (t : Bool) (l : Addr) (xs : Array Value) (h : Heap) : Prop := match t with
  | true => h.IsTuple l xs
  | false => h.IsList l xs
def itO (t : Bool) (l : Addr) : Obj := match t with
  | true => { cls := .type "tuple_iterator", data := .fields #[.ref l, .int 0 0] }
  | false => { cls := .type "list_iterator", data := .fields #[.ref l, .int 0 0] }
theorem srcB {P : Program} {w : World} {A : Around} {it l : Addr} {xs : Array Value} (t : Bool) (hh : A.handled = none) (hne : l ≠ it) : Src P w A it l xs (fun i h => ItS t it l i h ∧ IsS t l xs h) := by
  cases t
  · exact srcL hh hne
  · exact srcT hh hne
theorem drawB {P : Program} {w : World} {A : Around} {it l : Addr} {xs : Array Value} (t : Bool) (hh : A.handled = none) (hne : l ≠ it) : Draws P w A it [it, l] xs.size (fun i v => xs[i]? = some v) (fun i h => ItS t it l i h ∧ IsS t l xs h) := by
  cases t
  · exact Draws.list hh it l hne xs
  · exact Draws.tuple hh it l hne xs
theorem beginsB (t : Bool) (l : Addr) (xs : Array Value) : Begins (.ref l) (itO t l) (IsS t l xs) := by
  cases t
  · exact begins_list l xs
  · exact begins_tuple l xs
theorem itO_at {t : Bool} {it l : Addr} {h : Heap} (e : h.get? it = some (itO t l)) : ItS t it l 0 h := by
  cases t
  · exact ⟨_, e, rfl, rfl⟩
  · exact ⟨_, e, rfl, rfl⟩
theorem ItS.obj {t : Bool} {it l : Addr} {i : Nat} {h : Heap} (e : ItS t it l i h) : ∃ o, h.get? it = some o ∧ ∀ v, o.data ≠ .cell v := by
  cases t
  · obtain ⟨o, e1, _, d⟩ := e; exact ⟨o, e1, fun v q => by rw [d] at q; cases q⟩
  · obtain ⟨o, e1, _, d⟩ := e; exact ⟨o, e1, fun v q => by rw [d] at q; cases q⟩
theorem ItS.to {t : Bool} {it l : Addr} {i : Nat} {h h' : Heap} (e : ItS t it l i h) (k : ∀ o, h.get? it = some o → h'.get? it = some o) : ItS t it l i h' := by
  cases t
  · exact Heap.IsListIter.at e k
  · exact Heap.IsTupleIter.at e k
theorem IsS.lt {t : Bool} {l : Addr} {xs : Array Value} {h : Heap} (e : IsS t l xs h) : l < h.objs.size := by
  cases t
  · obtain ⟨_, e, _⟩ := e; exact Heap.lt_size e
  · obtain ⟨_, e, _⟩ := e; exact Heap.lt_size e
section
variable {X : Cx} {pins : List (Addr × Obj)} {σ : L2.St} {H : Hp} {s : Shared} {a : Addr} {xs ys : List V}
theorem rdB {t : Bool} (I : Inv X pins σ H s) (h : SqB X.K t H a xs) : ∃ its : List Value, Vals xs its ∧ IsS t a its.toArray s.heap := by
  cases t
  · obtain ⟨its, rv, p, _⟩ := I.list (show SqL X.K H a xs from h)
    exact ⟨its, rv, p.isList⟩
  · obtain ⟨its, rv, p, _⟩ := I.tuple (show SqT X.K H a xs from h)
    exact ⟨its, rv, p⟩
theorem injB {t : Bool} (I : Inv X pins σ H s) (h : SqB X.K t H a xs) (h' : SqB X.K t H a ys) : xs = ys := by
  cases t
  · exact I.list_inj h h'
  · exact I.tuple_inj h h'
end
/-! ### zip -/
def ItzB (K : PySem.W.Frag) (t1 t2 b : Bool) (a c : Addr) : It :=
  ⟨fun i H => ∃ (xs ys : List V) (x y : V), SqB K t1 H a xs ∧ SqB K t2 H c ys ∧ xs[i]? = some x ∧ ys[i]? = some y,
    fun i H v H' => ∃ T x y, v = .ref T ∧ H T = none ∧ H' = upd H T (.tup [x, y]) ∧ (∀ xs, SqB K t1 H a xs → xs[i]? = some x) ∧ ∀ ys, SqB K t2 H c ys → ys[i]? = some y,
    fun i H => ∃ xs ys : List V, SqB K t1 H a xs ∧ SqB K t2 H c ys ∧ if b = true then xs.length ≤ i ∧ ys.length ≤ i else xs.length ≤ i ∨ ys.length ≤ i⟩
theorem turn_zipB {P : Program} {w : World} {K : PySem.W.Frag} {elts : List Expr} {kk : Nat} {tpos : Pos} {t1 t2 sb : Bool} {a b z TI TO i1 i2 : Addr} (D : ZipApart z TI TO i1 i2 a b) :
    Turn P w K (.Tuple elts kk tpos) (ItzB K t1 t2 sb a b) [z, TI, TO, i1, i2] z (fun i h => ZipB h z TI TO .none sb ∧ IsPair h TI (.ref i1) (.ref i2) ∧ (∃ x y, IsPair h TO x y) ∧ ItS t1 i1 a i h ∧ ItS t2 i2 b i h) where
  mem := by simp
  obj := fun i h st c hc => by
    obtain ⟨hz, hTI, ⟨x, y, hTO⟩, h1, h2⟩ := st
    have e' : c = z ∨ c = TI ∨ c = TO ∨ c = i1 ∨ c = i2 := by simpa using hc
    rcases e' with q | q | q | q | q
    · rw [q]; exact ⟨_, hz, fun v q => nomatch q⟩
    · rw [q]; exact ⟨_, hTI, fun v q => nomatch q⟩
    · rw [q]; exact ⟨_, hTO, fun v q => nomatch q⟩
    · rw [q]; exact h1.obj
    · rw [q]; exact h2.obj
  keep := fun i h h' st k => by
    obtain ⟨hz, hTI, ⟨x, y, hTO⟩, h1, h2⟩ := st
    exact ⟨k z (by simp) _ hz, k TI (by simp) _ hTI, ⟨x, y, k TO (by simp) _ hTO⟩, h1.to fun o q => k i1 (by simp) o q, h2.to fun o q => k i2 (by simp) o q⟩
  item := by
    intro X hP hw hK hc i pins s σ H E I hf st hg
    subst hP hw hK
    obtain ⟨hz, hTI, ⟨x0, y0, hTO⟩, h1, h2⟩ := st
    obtain ⟨xs, ys, x, y, hqx, hqy, hx, hy⟩ := hg
    obtain ⟨its, rv, p⟩ := rdB I hqx
    obtain ⟨its2, rv2, p2⟩ := rdB I hqy
    obtain ⟨u, hu, ru⟩ := rv.get hx
    obtain ⟨u2, hu2, ru2⟩ := rv2.get hy
    have hzl : z < s.heap.objs.size := Heap.lt_size hz
    have hh : X.A.in1.handled = none := I.ok.hd hc
    refine py_more ⟨D, D.l2i1, D.l1i2⟩ (srcB t1 hh D.l1i1) (srcB t2 hh D.l2i2) hz hTI hTO ⟨h1, p⟩ ⟨h2, p2⟩ (x := u) (y := u2) (by simpa using hu) (by simpa using hu2) fun h' z' TO' h1' h2' hT hsz hk => ?_
    refine ⟨_, rfl, letGo_zip (s := { s with heap := h' }) z' fun h'' z'' sb => ?_⟩
    have hT2 : h''.get? s.heap.objs.size = some { cls := .type "tuple", data := .seq #[u, u2] } := (sb.2 _ (Nat.ne_of_gt hzl)).trans hT
    have new : ObjOk X.prog X.w (upd H s.heap.objs.size (.tup [x, y])) h'' s.heap.objs.size (.tup [x, y]) :=
      ⟨by show 2 ≤ sizeLine; decide, [u, u2], .cons ru (.cons ru2 .nil), ⟨_, hT2, rfl, _, rfl⟩⟩
    have I1 : Inv X pins σ (upd H s.heap.objs.size (.tup [x, y])) { s with heap := h'' } :=
      I.turnedNew (t' := s.toks) (ch := [z, TI, TO, i1, i2]) (fun c o hb q => (sb.2 c (fun q' => hb (by simp [q']))).trans (hk c o (fun q' => hb (by simp [q'])) (fun q' => hb (by simp [q'])) (fun q' => hb (by simp [q'])) (fun q' => hb (by simp [q'])) q)) hf (Nat.le_refl _) new
    refine ⟨.ref s.heap.objs.size, _, I1, rfl, ⟨_, x, y, rfl, I.hok.fresh (Nat.le_refl _), rfl, fun l hl => by rw [injB I hl hqx]; exact hx, fun l hl => by rw [injB I hl hqy]; exact hy⟩, ⟨z'', ?_, ⟨u, u2, ?_⟩, ?_, ?_⟩, fun c hcm => ?_⟩
    · exact (sb.2 _ D.TIz).trans (hk _ _ D.TIz D.TITO D.TIi1 D.TIi2 hTI)
    · exact (sb.2 _ D.TOz).trans TO'
    · exact h1'.1.to fun o q => (sb.2 _ D.i1z).trans q
    · exact h2'.1.to fun o q => (sb.2 _ D.i2z).trans q
    · have hlt : c < s.heap.objs.size := by
        have e' : c = z ∨ c = TI ∨ c = TO ∨ c = i1 ∨ c = i2 := by simpa using hcm
        rcases e' with q | q | q | q | q
        · rw [q]; exact hzl
        · rw [q]; exact Heap.lt_size hTI
        · rw [q]; exact Heap.lt_size hTO
        · rw [q]; obtain ⟨_, e1, _⟩ := h1.obj; exact Heap.lt_size e1
        · rw [q]; obtain ⟨_, e2, _⟩ := h2.obj; exact Heap.lt_size e2
      rw [upd_ne (Nat.ne_of_lt hlt)]
      exact (hf c hcm).1
  done := by
    intro X hP hw hK hc i pins s σ H E I hf st hg
    subst hP hw hK
    obtain ⟨hz, hTI, ⟨x0, y0, hTO⟩, h1, h2⟩ := st
    obtain ⟨xs, ys, hqx, hqy, hend⟩ := hg
    obtain ⟨its, rv, p⟩ := rdB I hqx
    obtain ⟨its2, rv2, p2⟩ := rdB I hqy
    have l1 := rv.length
    have l2 := rv2.length
    have hh : X.A.in1.handled = none := I.ok.hd hc
    have he : ZEnd sb its.toArray its2.toArray i i := by
      cases sb
      · have hend : xs.length ≤ i ∨ ys.length ≤ i := hend
        rcases hend with q | q
        · exact Or.inl (by simp; omega)
        · exact Or.inr (by simp; omega)
      · have hend : xs.length ≤ i ∧ ys.length ≤ i := hend
        exact And.intro (by simp; omega) (by simp; omega)
    exact py_end (I.ok.hd hc) ⟨D, D.l2i1, D.l1i2⟩ (srcB t1 hh D.l1i1) (srcB t2 hh D.l2i2) hz hTI hTO ⟨h1, p⟩ ⟨h2, p2⟩ he fun h' hk => ⟨rfl, I.turnedL (t' := s.toks) (ch := [z, TI, TO, i1, i2]) (fun c o hb q =>
      hk c o (fun q' => hb (by simp [q'])) (fun q' => hb (by simp [q'])) (fun q' => hb (by simp [q'])) (fun q' => hb (by simp [q'])) q) hf⟩
  self := fun A i s Q E st h => iter_zip st.1 h
section
variable {prog : Program} {w : World} {A : Around} {E : Value → Shared → Prop} {s : Shared}
theorem begins_kw {v1 v2 : Value} {o1 o2 : Obj} {H1 H2 : Heap → Prop} {b : Bool} {Q : Value → Shared → Prop} (B1 : Begins v1 o1 H1) (B2 : Begins v2 o2 H2) (h1 : H1 s.heap) (h2 : H2 s.heap)
    (k : ∀ h', ZipB h' (s.heap.objs.size + 4) (s.heap.objs.size + 2) (s.heap.objs.size + 3) .none b → IsTupOf2 h' (s.heap.objs.size + 2) (.ref s.heap.objs.size) (.ref (s.heap.objs.size + 1)) →
      IsTupOf2 h' (s.heap.objs.size + 3) .none .none → h'.get? s.heap.objs.size = some o1 → h'.get? (s.heap.objs.size + 1) = some o2 → h'.objs.size = s.heap.objs.size + 5 →
      (∀ c o, s.heap.get? c = some o → h'.get? c = some o) → Q (.ref (s.heap.objs.size + 4)) { s with heap := h' }) :
    wpAny (model prog w) A (call (.type "zip") [v1, v2] [(kwS, .bool b)]) Q E s := by
  refine callType_newKw F.called_zip (by decide) (typeCall _ _ _) (newCall _ _ _) (fun obj => argsInit obj _ _ _) F.entry_zip_new (meetsKw b B1 B2) ⟨⟨h1, h2⟩, ?_⟩
  have y1 : (s.heap.push o1).objs.size = s.heap.objs.size + 1 := by rw [Heap.size_push]
  have y2 : ((s.heap.push o1).push o2).objs.size = s.heap.objs.size + 2 := by rw [Heap.size_push, y1]
  have yT : (gzT2 s.heap o1 o2).objs.size = s.heap.objs.size + 3 := by rw [Heap.size_push, y2]
  have yO : (gzO2 s.heap o1 o2).objs.size = s.heap.objs.size + 4 := by rw [Heap.size_push, yT]
  have yZ : (z2 s.heap o1 o2 b).objs.size = s.heap.objs.size + 5 := by rw [Heap.size_push, yO]
  have gZ : (z2 s.heap o1 o2 b).get? (gzO2 s.heap o1 o2).objs.size = some { cls := .type "zip", data := .fields #[.none, .bool false, .bool b, .ref ((s.heap.push o1).push o2).objs.size, .ref (gzT2 s.heap o1 o2).objs.size] } := Heap.get?_push_size _ rfl
  have gO : (z2 s.heap o1 o2 b).get? (gzT2 s.heap o1 o2).objs.size = some { cls := .type "tuple", data := .seq #[.none, .none] } := Heap.get?_push_of_some _ (Heap.get?_push_size _ rfl)
  have gT : (z2 s.heap o1 o2 b).get? ((s.heap.push o1).push o2).objs.size = some { cls := .type "tuple", data := .seq #[.ref s.heap.objs.size, .ref (s.heap.push o1).objs.size] } := Heap.get?_push_of_some _ (Heap.get?_push_of_some _ (Heap.get?_push_size _ rfl))
  have g1 : (z2 s.heap o1 o2 b).get? s.heap.objs.size = some o1 := Heap.get?_push_of_some _ (Heap.get?_push_of_some _ (Heap.get?_push_of_some _ (Heap.get?_push_of_some _ (Heap.get?_push_size _ B1.free))))
  have g2 : (z2 s.heap o1 o2 b).get? (s.heap.push o1).objs.size = some o2 := Heap.get?_push_of_some _ (Heap.get?_push_of_some _ (Heap.get?_push_of_some _ (Heap.get?_push_size _ B2.free)))
  rw [yO, yT, y2] at gZ
  rw [yT] at gO
  rw [y2, y1] at gT
  rw [y1] at g2
  show _ ∧ _
  rw [yO]
  exact ⟨⟨_, gZ, rfl⟩, k _ gZ gT gO g1 g2 yZ fun c o e => Heap.get?_push_of_some _ (Heap.get?_push_of_some _ (Heap.get?_push_of_some _ (Heap.get?_push_of_some _ (Heap.get?_push_of_some _ e))))⟩
end
def iZipB (K : PySem.W.Frag) (b : Bool) (ta : TA) : TI := fun σ H R => ta σ H fun vs H1 => ∃ a c xs ys t1 t2, vs = [.ref a, .ref c] ∧ SqB K t1 H1 a xs ∧ SqB K t2 H1 c ys ∧ R (ItzB K t1 t2 b a c) H1
section
variable {X : Cx} {e e2 : Expr} {ta : TA} {p pos tpos kp cp : Pos} {elts : List Expr} {kk ck : Nat}
theorem zip_got {pins : List (Addr × Obj)} {σ : L2.St} {H1 : Hp} {s1 : Shared} {R : It → Hp → Prop} {a c : Addr} {xs ys : List V} {t1 t2 b : Bool} (I1 : Inv X pins σ H1 s1) (hqx : SqB X.K t1 H1 a xs) (hqy : SqB X.K t2 H1 c ys) (q : R (ItzB X.K t1 t2 b a c) H1)
    (h' : Heap) (hz : ZipB h' (s1.heap.objs.size + 4) (s1.heap.objs.size + 2) (s1.heap.objs.size + 3) .none b) (hTI : IsTupOf2 h' (s1.heap.objs.size + 2) (.ref s1.heap.objs.size) (.ref (s1.heap.objs.size + 1)))
    (hTO : IsTupOf2 h' (s1.heap.objs.size + 3) .none .none) (h1 : h'.get? s1.heap.objs.size = some (itO t1 a)) (h2 : h'.get? (s1.heap.objs.size + 1) = some (itO t2 c)) (hk : ∀ c o, s1.heap.get? c = some o → h'.get? c = some o) :
    wpAny (model X.prog X.w) X.A (pyIter (.ref (s1.heap.objs.size + 4))) (PIE X pins σ (.Tuple elts kk tpos) R) X.xe { s1 with heap := h' } := by
  refine iter_zip hz ?_
  obtain ⟨its, rv, p1⟩ := rdB I1 hqx
  obtain ⟨its2, rv2, p2⟩ := rdB I1 hqy
  have fresh5 : ∀ c, c ∈ [s1.heap.objs.size + 4, s1.heap.objs.size + 2, s1.heap.objs.size + 3, s1.heap.objs.size, s1.heap.objs.size + 1] → FpOk X pins H1 c := fun c hcm => by
    have e' : c = s1.heap.objs.size + 4 ∨ c = s1.heap.objs.size + 2 ∨ c = s1.heap.objs.size + 3 ∨ c = s1.heap.objs.size ∨ c = s1.heap.objs.size + 1 := by simpa using hcm
    have hle : s1.heap.objs.size ≤ c := by omega
    exact I1.fpOk hle (I1.hok.fresh hle)
  have I2 : Inv X pins σ H1 { s1 with heap := h' } := I1.kept (t' := s1.toks) hk
  exact ⟨s1.heap.objs.size + 4, [s1.heap.objs.size + 4, s1.heap.objs.size + 2, s1.heap.objs.size + 3, s1.heap.objs.size, s1.heap.objs.size + 1], _, _, H1, rfl, I2, turn_zipB (PySem.W.ktu_apart s1.heap.objs.size a c p1.lt p2.lt), ⟨hz, hTI, ⟨_, _, hTO⟩, itO_at h1, itO_at h2⟩, fresh5, q⟩
theorem pi_zip2 (hg : Gl X "zip") (hm : X.mg "zip" = none) (ha : PA X [e, e2] ta)
    (hs : starEach [e, e2] X.env = (false, eval e X.env) :: starEach [e2] X.env) (hpl : (backTo pos (starEach [e2] X.env)).any (·.1) = false) :
    PI X (.Tuple elts kk tpos) (.Call (.Name "zip" p) [e, e2] [] pos) (iZipB X.K false ta) := by
  refine ⟨fun pins s σ H R I h => ?_⟩
  refine Call_ (ld_blt I hg hm PyProof.Rows.boot_zip (PyProof.Rows.callWith_type1 (thn (ha.run pos pins s σ H _ I h) fun us s1 ⟨vs, H1, I1, r1, q1⟩ => ?_) hs hpl))
  obtain ⟨a, c, xs, ys, t1, t2, ex, hqx, hqy, q⟩ := q1
  subst ex
  cases r1 with
  | cons r rr =>
    cases rr with
    | cons r' rr =>
      cases rr
      cases r
      cases r'
      obtain ⟨its, rv, p1⟩ := rdB I1 hqx
      obtain ⟨its2, rv2, p2⟩ := rdB I1 hqy
      exact zip_begins2 (beginsB t1 a _) (beginsB t2 c _) p1 p2 fun h' hz hTI hTO h1 h2 hsz hk => zip_got I1 hqx hqy q h' hz hTI hTO h1 h2 hk
theorem callWith_tyKw {M : Model} {A : Around} {E : Value → Shared → Prop} {s : Shared} {T : String} {args : List (Bool × Sem Value)} {keywords : List (Option Str × Sem Value)} {Q : Value → Shared → Prop}
    (hplain : args.any (·.1) = false) (hkw : keywords.any (·.1.isNone) = false)
    (h : wpAny M A (evalArgs (.type T) true args keywords) (fun a s₁ => wpAny M A (call (.type T) ([] ++ a.pos) a.kw) Q E s₁) E s) :
    wpAny M A (callWith pos (.type T) [] args keywords) Q E s := by
  unfold callWith
  refine wpAny_bind (wpAny_holding (wpAny_mono h (fun a s₁ h₁ => wpAny_bind (wpAny_standAt ?_)) fun _ _ x => x))
  simp only [hplain, hkw, Bool.or_false]
  refine wpAny_bind (wpAny_pure ?_)
  exact wpAny_bind (wpAny_mono h₁ (fun r s₂ hr => wpAny_bind (wpAny_holding (wpAny_point (wpAny_pure hr)))) fun _ _ x => x)
theorem pi_zipK {b : Bool} (hg : Gl X "zip") (hm : X.mg "zip" = none) (ha : PA X [e, e2] ta)
    (hs : starEach [e, e2] X.env = (false, eval e X.env) :: starEach [e2] X.env) (hpl : (backTo pos (starEach [e, e2] X.env)).any (·.1) = false) :
    PI X (.Tuple elts kk tpos) (.Call (.Name "zip" p) [e, e2] [⟨some kwS, .Constant (.bool b) ck cp, kp⟩] pos) (iZipB X.K b ta) := by
  refine ⟨fun pins s σ H R I h => ?_⟩
  show wpAny _ _ (do callWith pos (← eval (.Name "zip" p) X.env) [] (backTo pos (starEach [e, e2] X.env)) (backToKw pos (keywordEach [⟨some kwS, .Constant (.bool b) ck cp, kp⟩] X.env))) _ _ _
  refine wpAny_bind (ld_blt I hg hm PyProof.Rows.boot_zip ?_)
  refine callWith_tyKw hpl rfl (PyProof.Rows.evalArgs_kw2 rfl (thn (ha.run pos pins s σ H _ I h) fun us s1 ⟨vs, H1, I1, r1, q1⟩ => ?_) hs)
  refine PyProof.Rows.kwAll_cons (Constant_bool (PyProof.Rows.kwAll_nil ?_))
  obtain ⟨a, c, xs, ys, t1, t2, ex, hqx, hqy, q⟩ := q1
  subst ex
  cases r1 with
  | cons r rr =>
    cases rr with
    | cons r' rr =>
      cases rr
      cases r
      cases r'
      obtain ⟨its, rv, p1⟩ := rdB I1 hqx
      obtain ⟨its2, rv2, p2⟩ := rdB I1 hqy
      exact begins_kw (beginsB t1 a _) (beginsB t2 c _) p1 p2 fun h' hz hTI hTO h1 h2 hsz hk => zip_got I1 hqx hqy q h' hz hTI hTO h1 h2 hk
end
/-! ### enumerate of a tuple -/
set_option maxHeartbeats 1000000 in
theorem meets_enumT {v : Value} {o : Obj} {H : Heap → Prop} (B : Begins v o H) :
    Meets (Builtin.«enumerate.__new__» ⟨[.type "enumerate", v], []⟩) (fun _ R s => H s.heap ∧
      R (.ok (.ret (.ref (s.heap.push o).objs.size))) { s with heap := (s.heap.push o).push { cls := .type "enumerate", data := .fields #[.none, .bool false, .ref s.heap.objs.size, rawInt 0, .none, .none] } }) :=
  .of_wp fun prog w A R s h => by
    obtain ⟨hp, g, d, tk, os⟩ := s; obtain ⟨h1, h⟩ := h
    have hsub := sub_enumerate
    have q1 : ∀ {A' : Around} {E : Value → Shared → Prop} {Q : Value → Shared → Prop}, Q (.ref hp.objs.size) ⟨hp.push o, g, d, tk, os⟩ → wpAny (model prog w) A' (pyIter v) Q E ⟨hp, g, d, tk, os⟩ :=
      fun q => B.iter prog w _ _ ⟨hp, g, d, tk, os⟩ _ h1 q
    wp_walk using q1
    refine wpAny_stack_any fun st => wpAny_pure ?_
    split
    · rename_i c _ _ _ _ _
      cases (c == Value.type "enumerate")
      · wp_walk using q1
        exact ⟨_, rfl, h⟩
      · wp_walk using q1
        exact ⟨_, rfl, h⟩
    · wp_walk using q1
      exact ⟨_, rfl, h⟩
theorem begins_enum {prog : Program} {w : World} {A : Around} {E : Value → Shared → Prop} {s : Shared} {v : Value} {o : Obj} {H : Heap → Prop} {Q : Value → Shared → Prop} (B : Begins v o H) (h1 : H s.heap)
    (h : ∀ h', IsEnum h' (s.heap.objs.size + 1) s.heap.objs.size 0 .none → h'.get? s.heap.objs.size = some o → h'.objs.size = s.heap.objs.size + 2 →
      (∀ b o, s.heap.get? b = some o → h'.get? b = some o) → Q (.ref (s.heap.objs.size + 1)) { s with heap := h' }) :
    wpAny (model prog w) A (call (.type "enumerate") [v]) Q E s := by
  refine callType_new F.called_enumerate (by decide) (F.typeCall_enumerate_1 _) (F.newCall_enumerate_1 _) (fun obj => F.args_object_init_2 obj _) F.entry_enumerate_new (meets_enumT B) ⟨h1, ?_⟩
  have hz : (s.heap.push o).objs.size = s.heap.objs.size + 1 := Heap.size_push ..
  show _ ∧ _
  rw [hz]
  have he : IsEnum ((s.heap.push o).push { cls := .type "enumerate", data := .fields #[.none, .bool false, .ref s.heap.objs.size, rawInt 0, .none, .none] }) (s.heap.objs.size + 1) s.heap.objs.size 0 .none := by
    have := Heap.get?_push_size (s.heap.push o) (o := { cls := .type "enumerate", data := .fields #[.none, .bool false, .ref s.heap.objs.size, rawInt 0, .none, .none] }) rfl
    rw [hz] at this; exact this
  exact ⟨⟨_, he, rfl⟩, h _ he (Heap.get?_push_of_some _ (Heap.get?_push_size _ B.free)) (by rw [Heap.size_push, hz]) fun b o x => Heap.get?_push_of_some _ (Heap.get?_push_of_some _ x)⟩
def IteB (K : PySem.W.Frag) (t : Bool) (a : Addr) : It :=
  ⟨fun i H => ∃ (xs : List V) (x : V), SqB K t H a xs ∧ xs[i]? = some x, fun i H v H' => ∃ T x, v = .ref T ∧ H T = none ∧ H' = upd H T (.tup [.int (i : Nat), x]) ∧ ∀ xs, SqB K t H a xs → xs[i]? = some x,
    fun i H => ∃ xs : List V, SqB K t H a xs ∧ xs.length = i⟩
theorem turn_enumB {P : Program} {w : World} {K : PySem.W.Frag} {elts : List Expr} {kk : Nat} {tpos : Pos} {t : Bool} (a e it : Addr) (hai : a ≠ it) (hae : a ≠ e) :
    Turn P w K (.Tuple elts kk tpos) (IteB K t a) [e, it] e (fun i h => (∃ old, IsEnum h e it ((i : Nat) : Int) old) ∧ ItS t it a i h ∧ e ≠ it) where
  mem := by simp
  obj := fun i h st b hb => by
    obtain ⟨⟨old, he⟩, hi, _⟩ := st
    have e' : b = e ∨ b = it := by simpa using hb
    rcases e' with z | z
    · rw [z]; exact ⟨_, he, fun v q => nomatch q⟩
    · rw [z]; exact hi.obj
  keep := fun i h h' st k => let ⟨⟨old, he⟩, hi, hne⟩ := st; ⟨⟨old, k e (by simp) _ he⟩, hi.to fun o q => k it (by simp) o q, hne⟩
  item := by
    intro X hP hw hK hc i pins s σ H E I hf st hg
    subst hP hw hK
    obtain ⟨⟨old, he⟩, hit, hne⟩ := st
    obtain ⟨xs, x, hq, hx⟩ := hg
    obtain ⟨its, rv, p⟩ := rdB I hq
    obtain ⟨u, hu, ru⟩ := rv.get hx
    have hel : e < s.heap.objs.size := Heap.lt_size he
    have hil : it < s.heap.objs.size := by obtain ⟨_, q, _⟩ := hit.obj; exact Heap.lt_size q
    have hh : X.A.in1.in1.handled = none := I.ok.hd hc
    have hlt : i < its.toArray.size := by simpa using (List.getElem?_eq_some_iff.mp hu).1
    refine wpAny_pyNext_enum_itemC (drawB t hh hai) he ⟨hit, p⟩ hlt hne (by simp; exact ⟨hne, Ne.symm hae⟩) fun u' h' tk hP ho hit' hT hsz hk => ?_
    have eu : u' = u := by
      have h1 : its.toArray[i]? = some u := by simpa using hu
      rw [h1] at hP; cases hP; rfl
    subst eu
    refine ⟨_, rfl, wpAny_letOwnedTupleGo_enum (s := { s with heap := h', toks := tk + 1 }) ho fun h'' he' sb => ?_⟩
    have hT2 : h''.get? s.heap.objs.size = some { cls := .type "tuple", data := .seq #[.int i tk, u'] } := (sb.2 _ (Nat.ne_of_gt hel)).trans hT
    have new : ObjOk X.prog X.w (upd H s.heap.objs.size (.tup [.int (i : Nat), x])) h'' s.heap.objs.size (.tup [.int (i : Nat), x]) :=
      ⟨by show 2 ≤ sizeLine; decide, [.int i tk, u'], .cons ⟨_, rfl⟩ (.cons ru .nil), ⟨_, hT2, rfl, _, rfl⟩⟩
    have I1 : Inv X pins σ (upd H s.heap.objs.size (.tup [.int (i : Nat), x])) { s with heap := h'', toks := tk + 1 } :=
      I.turnedNew (ch := [e, it]) (fun b ob hb q => (sb.2 b (fun z => hb (by simp [z]))).trans (hk b ob (fun z => hb (by simp [z])) (fun z => hb (by simp [z])) q)) hf (Nat.le_refl _) new
    refine ⟨.ref s.heap.objs.size, _, I1, rfl, ⟨_, x, rfl, I.hok.fresh (Nat.le_refl _), rfl, fun ys hy => by rw [injB I hy hq]; exact hx⟩, ⟨⟨u', ?_⟩, hit'.1.to fun o q => (sb.2 it (Ne.symm hne)).trans q, hne⟩, fun b hb => ?_⟩
    · have e1 : ((i + 1 : Nat) : Int) = (i : Int) + 1 := by omega
      rw [e1]; exact he'
    · have hb' : b < s.heap.objs.size := by
        have e' : b = e ∨ b = it := by simpa using hb
        rcases e' with z | z
        · rw [z]; exact hel
        · rw [z]; exact hil
      rw [upd_ne (Nat.ne_of_lt hb')]
      exact (hf b hb).1
  done := by
    intro X hP hw hK hc i pins s σ H E I hf st hg
    subst hP hw hK
    obtain ⟨⟨old, he⟩, hit, hne⟩ := st
    obtain ⟨xs, hq, hx⟩ := hg
    obtain ⟨its, rv, p⟩ := rdB I hq
    obtain ⟨f0, f1, f2, f3, f4, f5⟩ := hf it (by simp)
    have hl := rv.length
    have hh : X.A.in1.in1.handled = none := I.ok.hd hc
    have ei : i = its.toArray.size := by simp; omega
    subst ei
    exact wpAny_pyNext_enum_endD (drawB t hh hai) he ⟨hit, p⟩ fun h' eb => ⟨rfl, I.turned (t' := s.toks) (fun b o hb q => eb b o hb q) f0 f1 f3 f4 f5⟩
  self := fun A i s Q E st h => let ⟨⟨_, he⟩, _⟩ := st; wpAny_pyIter_enum he h
def iEnumB (K : PySem.W.Frag) (ta : TA) : TI := fun σ H R => ta σ H fun vs H1 => ∃ a xs t, vs = [.ref a] ∧ SqB K t H1 a xs ∧ R (IteB K t a) H1
theorem pi_enumB {X : Cx} {e : Expr} {ta : TA} {p pos tpos : Pos} {elts : List Expr} {kk : Nat} (hg : Gl X "enumerate") (hm : X.mg "enumerate" = none) (ha : PA X [e] ta) (hs : starEach [e] X.env = (false, eval e X.env) :: starEach [] X.env) :
    PI X (.Tuple elts kk tpos) (.Call (.Name "enumerate" p) [e] [] pos) (iEnumB X.K ta) := by
  refine ⟨fun pins s σ H R I h => ?_⟩
  refine Call_ (ld_blt I hg hm boot_enumerate (PyProof.Rows.callWith_type1 (thn (ha.run pos pins s σ H _ I h) fun us s1 ⟨vs, H1, I1, r1, q1⟩ => ?_) hs rfl))
  obtain ⟨a, xs, t, ex, hq, q⟩ := q1
  subst ex
  cases r1 with
  | cons r rr =>
    cases rr
    cases r
    obtain ⟨its, rv, p'⟩ := rdB I1 hq
    refine begins_enum (beginsB t a _) p' fun h' he hit hsz hk => wpAny_pyIter_enum he ?_
    have I2 : Inv X pins σ H1 { s1 with heap := h' } := I1.kept (t' := s1.toks) hk
    have la := p'.lt
    refine ⟨s1.heap.objs.size + 1, [s1.heap.objs.size + 1, s1.heap.objs.size], _, _, H1, rfl, I2, turn_enumB a (s1.heap.objs.size + 1) s1.heap.objs.size (Nat.ne_of_lt la) (Nat.ne_of_lt (Nat.lt_succ_of_lt la)), ⟨⟨.none, he⟩, itO_at hit, Nat.succ_ne_self _⟩, fun b hb => ?_, q⟩
    have e' : b = s1.heap.objs.size + 1 ∨ b = s1.heap.objs.size := by simpa using hb
    have hle : s1.heap.objs.size ≤ b := by
      rcases e' with z | z
      · rw [z]; exact Nat.le_add_right _ _
      · rw [z]; exact Nat.le_refl _
    exact I1.fpOk hle (I1.hok.fresh hle)
end TZ
end
section
set_option maxHeartbeats 4000000
/-! TLM: a tuple times a number from 0 on -/
namespace TL
open PySem PySem.Spec PyProof.Rows L2
theorem tuple_mul1 (l : Addr) (items : Array Value) (n : Nat) (dd : Option Addr) (sl : Array (Option Value)) (u : Tok) :
    Meets (Builtin.«tuple.__mul__» ⟨[.ref l, .int 1 u], []⟩) (fun _ R s => s.heap.get? l = some { cls := .type "tuple", dict := dd, data := .seq items n, slots := sl } ∧ R (.ok (.ret (Value.ref l))) { s with heap := s.heap, toks := s.toks }) :=
  .of_wp fun prog w A R s h => by
    obtain ⟨hp, g, d, tk, os⟩ := s
    obtain ⟨hl, h⟩ := h
    have f1 := AutoSeq1.idx_int
    have f2 := AutoSeq1.sub_tuple_tuple
    have c1 : (items.isEmpty || (1 : Int) == 1) = true := by rw [Bool.or_eq_true]; exact .inr rfl
    wp_walk using wpAny_loadPart' hl
    repeat (first
      | (refine wpAny_ite_false (decide_eq_false (by decide)) ?_; wp_walk using wpAny_loadPart' hl)
      | (refine wpAny_ite_true (decide_eq_true c1) ?_; wp_walk using wpAny_loadPart' hl))
    exact ⟨_, rfl, h⟩
theorem tuple_mul0 (l : Addr) (items : Array Value) (n : Nat) (dd : Option Addr) (sl : Array (Option Value)) (u : Tok) (hi : items.isEmpty = false) :
    Meets (Builtin.«tuple.__mul__» ⟨[.ref l, .int 0 u], []⟩) (fun _ R s => s.heap.get? l = some { cls := .type "tuple", dict := dd, data := .seq items n, slots := sl } ∧
      R (.ok (.ret (Value.ref s.heap.objs.size))) { s with heap := s.heap.push { cls := Value.type "tuple", data := Data.seq #[] }, toks := s.toks }) :=
  .of_wp fun prog w A R s h => by
    obtain ⟨hp, g, d, tk, os⟩ := s
    obtain ⟨hl, h⟩ := h
    have f1 := AutoSeq1.idx_int
    have f2 := AutoSeq1.sub_tuple_tuple
    have c1 : ¬ (items.isEmpty || (0 : Int) == 1) = true := by rw [hi]; decide
    have c2 : ((decide ((0 : Int) ≤ 0) || items.isEmpty)) = true := rfl
    wp_walk using wpAny_loadPart' hl
    repeat (first
      | (refine wpAny_ite_false (decide_eq_false (by decide)) ?_; wp_walk using wpAny_loadPart' hl)
      | (refine wpAny_ite_false (decide_eq_false c1) ?_; wp_walk using wpAny_loadPart' hl)
      | (refine wpAny_ite_true (decide_eq_true c2) ?_; wp_walk using wpAny_loadPart' hl))
    exact ⟨_, rfl, h⟩
theorem tuple_mulE (l : Addr) (items : Array Value) (n : Nat) (dd : Option Addr) (sl : Array (Option Value)) (x : Int) (u : Tok) (hi : items.isEmpty = true) (c0 : (decide (x < -(2 ^ 63)) || decide (x ≥ 2 ^ 63)) = false) :
    Meets (Builtin.«tuple.__mul__» ⟨[.ref l, .int x u], []⟩) (fun _ R s => s.heap.get? l = some { cls := .type "tuple", dict := dd, data := .seq items n, slots := sl } ∧ R (.ok (.ret (Value.ref l))) { s with heap := s.heap, toks := s.toks }) :=
  .of_wp fun prog w A R s h => by
    obtain ⟨hp, g, d, tk, os⟩ := s
    obtain ⟨hl, h⟩ := h
    have f1 := AutoSeq1.idx_int
    have f2 := AutoSeq1.sub_tuple_tuple
    have c1 : (items.isEmpty || x == 1) = true := by rw [hi, Bool.true_or]
    wp_walk using wpAny_loadPart' hl
    repeat (first
      | (refine wpAny_ite_false (decide_eq_false (by rw [c0]; exact Bool.false_ne_true)) ?_; wp_walk using wpAny_loadPart' hl)
      | (refine wpAny_ite_true (decide_eq_true c1) ?_; wp_walk using wpAny_loadPart' hl))
    exact ⟨_, rfl, h⟩
def rRepA (K : PySem.W.Frag) : R2 := fun x y H Q => ∃ l k xs, x = .ref l ∧ y = .int k ∧ SqT K H l xs ∧ 0 ≤ k ∧ k ≤ 1000 ∧ xs.length ≤ 1000 ∧ (k = 1 ∨ xs = [] → Q (.ref l) H) ∧ (k ≠ 1 ∧ xs ≠ [] → ∀ p, H p = none → Q (.ref p) (upd H p (.tup (List.replicate k.toNat xs).flatten)))
theorem op_repA {X : Cx} : OpR X (binaryOp .Mult) (rRepA X.K) := by
  intro pins s σ H x y v u Q I rx ry h
  obtain ⟨l, k, xs, rfl, rfl, hT, h1, h2, hz, q1, q⟩ := h
  by_cases hne : xs = []
  · cases rx
    obtain ⟨t, rfl⟩ := ry
    obtain ⟨its, r, ⟨⟨cls, dd, data, sl⟩, ho, hc, n, hd⟩, hs⟩ := I.tuple hT
    simp only at hc hd
    subst hc hd
    have hle : its.length = xs.length := r.length.symm
    have hi : its.toArray.isEmpty = true := by
      rw [hne] at hle
      rw [List.eq_nil_of_length_eq_zero hle]; rfl
    refine wpAny_binaryOp_repeat_ref (T := "tuple") (U := "int") (by decide) ⟨_, ho, rfl⟩ (fun s' => typeIs_int s' k t) noFill_tuple_mul F.fills_int_mul F.slot_int_rmul repeat_tuple F.slot_int_index.lookup
      (call_meets F.slot_int_rmul (typeIs_int s k t) F.entry_int_rmul (F.args_int_rmul_2 _ _) (int_rmul_tuple k t l its.toArray n dd sl)
        ⟨ho, rfl, ⟨_, ho, rfl⟩, call_meets F.slot_tuple_mul ⟨_, ho, rfl⟩ F.entry_tuple_mul (F.args_tuple_mul_2 _ _) (tuple_mulE l its.toArray n dd sl k t hi (by rw [decide_eq_false (by omega), decide_eq_false (by omega)]; rfl)) ⟨ho, ?_⟩⟩)
    exact ⟨.ref l, H, I, rfl, q1 (.inr hne)⟩
  by_cases h3 : 2 ≤ k
  · exact op_repT pins s σ H _ _ v u Q I rx ry ⟨l, k, xs, rfl, rfl, hT, hne, h3, h2, hz, q ⟨by omega, hne⟩⟩
  · cases rx
    obtain ⟨t, rfl⟩ := ry
    obtain ⟨its, r, ⟨⟨cls, dd, data, sl⟩, ho, hc, n, hd⟩, hs⟩ := I.tuple hT
    simp only at hc hd
    subst hc hd
    have hle : its.length = xs.length := r.length.symm
    have hn : its ≠ [] := fun e => hne (by
      rw [e] at hle
      exact List.eq_nil_of_length_eq_zero hle.symm)
    have hi : its.toArray.isEmpty = false := by
      cases its with
      | nil => exact absurd rfl hn
      | cons a b => rfl
    by_cases h4 : k = 1
    · subst h4
      refine wpAny_binaryOp_repeat_ref (T := "tuple") (U := "int") (by decide) ⟨_, ho, rfl⟩ (fun s' => typeIs_int s' 1 t) noFill_tuple_mul F.fills_int_mul F.slot_int_rmul repeat_tuple F.slot_int_index.lookup
        (call_meets F.slot_int_rmul (typeIs_int s 1 t) F.entry_int_rmul (F.args_int_rmul_2 _ _) (int_rmul_tuple 1 t l its.toArray n dd sl)
          ⟨ho, rfl, ⟨_, ho, rfl⟩, call_meets F.slot_tuple_mul ⟨_, ho, rfl⟩ F.entry_tuple_mul (F.args_tuple_mul_2 _ _) (tuple_mul1 l its.toArray n dd sl t) ⟨ho, ?_⟩⟩)
      exact ⟨.ref l, H, I, rfl, q1 (.inl rfl)⟩
    · obtain rfl : k = 0 := by omega
      refine wpAny_binaryOp_repeat_ref (T := "tuple") (U := "int") (by decide) ⟨_, ho, rfl⟩ (fun s' => typeIs_int s' 0 t) noFill_tuple_mul F.fills_int_mul F.slot_int_rmul repeat_tuple F.slot_int_index.lookup
        (call_meets F.slot_int_rmul (typeIs_int s 0 t) F.entry_int_rmul (F.args_int_rmul_2 _ _) (int_rmul_tuple 0 t l its.toArray n dd sl)
          ⟨ho, rfl, ⟨_, ho, rfl⟩, call_meets F.slot_tuple_mul ⟨_, ho, rfl⟩ F.entry_tuple_mul (F.args_tuple_mul_2 _ _) (tuple_mul0 l its.toArray n dd sl t hi) ⟨ho, ?_⟩⟩)
      refine ⟨.ref s.heap.objs.size, _, I.laid (t' := s.toks) (o := .tup []) (fun b ob q => Heap.get?_push_of_some _ q) (Nat.le_refl _) ?_, rfl, q ⟨by decide, hne⟩ _ (I.hok.fresh (Nat.le_refl _))⟩
      exact ⟨by rw [sizeLine_eq]; simp, [], .nil, IsTup.new _ _⟩
end TL
end
section
set_option autoImplicit false
/-! TL1: trees of data over the abstract heap, a def's slots as trees, steps -/
namespace TL
open PySem PySem.Spec PyProof.Rows L2

abbrev D := PyData
def kD : Key → D
  | .inl i => .int i
  | .inr x => .str x

/-- a list that is read: tracked, frozen, or a plain list of the module -/
def LsL (K : PySem.W.Frag) (F : Hp) (a : Addr) (xs : List V) : Prop :=
  Rd F a (.lst xs) ∨ ∃ (its : Array Value) (n : Nat), K.lookup a = some { cls := .type "list", data := .seq its n } ∧ its.size ≤ sizeLine ∧ Vals xs its.toList
theorem LsL.sq {K : PySem.W.Frag} {F : Hp} {a : Addr} {xs : List V} (h : LsL K F a xs) : SqL K F a xs := by
  rcases h with h | ⟨its, n, h1, h2, h3⟩
  · exact .inl h
  · exact .inr ⟨_, its, n, h1, rfl, rfl, rfl, h2, h3⟩
mutual
/-- the value is that tree, read off the part F of the heap (which never changes) -/
inductive Rp (K : PySem.W.Frag) (F : Hp) : V → D → Prop
  | non : Rp K F .non .none
  | bl (b : Bool) : Rp K F (.bl b) (.bool b)
  | int (i : Int) : Rp K F (.int i) (.int i)
  | str (x : Str) : Rp K F (.str x) (.str x)
  | lst {a : Addr} {xs : List V} {ds : List D} : LsL K F a xs → Rps K F xs ds → Rp K F (.ref a) (.list ds)
  | tup {a : Addr} {xs : List V} {ds : List D} : SqT K F a xs → Rps K F xs ds → Rp K F (.ref a) (.tuple ds)
  | dct {a : Addr} {ks : List Key} {vs : List V} {ds : List D} : F a = some (.dK (ks.zip vs)) → ks.length = vs.length → Rps K F vs ds → Rp K F (.ref a) (.dict ((ks.map kD).zip ds))
inductive Rps (K : PySem.W.Frag) (F : Hp) : List V → List D → Prop
  | nil : Rps K F [] []
  | cons {v : V} {vs : List V} {d : D} {ds : List D} : Rp K F v d → Rps K F vs ds → Rps K F (v :: vs) (d :: ds)
end

section
variable {K : PySem.W.Frag} {F F' : Hp}
theorem rd_mono {a : Addr} {u : HO} (e : Same F F') (h : Rd F a u) : Rd F' a u := by
  rcases h with h | ⟨o, h⟩
  · exact .inl (e _ _ h)
  · exact .inr ⟨o, e _ _ h⟩
theorem sqL_mono {a : Addr} {xs : List V} (e : Same F F') (h : LsL K F a xs) : LsL K F' a xs := by
  rcases h with h | h
  · exact .inl (rd_mono e h)
  · exact .inr h
theorem sqT_mono {a : Addr} {xs : List V} (e : Same F F') (h : SqT K F a xs) : SqT K F' a xs := by
  rcases h with (h | ⟨o, h⟩) | h
  · exact .inl (.inl (e _ _ h))
  · exact .inl (.inr ⟨o, e _ _ h⟩)
  · exact .inr h
mutual
theorem Rp.mono (e : Same F F') : ∀ {v : V} {d : D}, Rp K F v d → Rp K F' v d
  | _, _, .non => .non
  | _, _, .bl b => .bl b
  | _, _, .int i => .int i
  | _, _, .str x => .str x
  | _, _, .lst h r => .lst (sqL_mono e h) (Rps.mono e r)
  | _, _, .tup h r => .tup (sqT_mono e h) (Rps.mono e r)
  | _, _, .dct h l r => .dct (e _ _ h) l (Rps.mono e r)
theorem Rps.mono (e : Same F F') : ∀ {vs : List V} {ds : List D}, Rps K F vs ds → Rps K F' vs ds
  | _, _, .nil => .nil
  | _, _, .cons h r => .cons (Rp.mono e h) (Rps.mono e r)
end
theorem Rps.length : ∀ {vs : List V} {ds : List D}, Rps K F vs ds → vs.length = ds.length
  | _, _, .nil => rfl
  | _, _, .cons _ r => congrArg (· + 1) r.length
theorem Rps.get : ∀ {vs : List V} {ds : List D} {i : Nat} {d : D}, Rps K F vs ds → ds[i]? = some d → ∃ v, vs[i]? = some v ∧ Rp K F v d
  | _, _, _, _, .nil, h => by simp at h
  | _, _, 0, _, .cons a _, h => by simp at h; subst h; exact ⟨_, rfl, a⟩
  | _, _, i + 1, d, .cons _ r, h => by
    obtain ⟨v, h1, h2⟩ := Rps.get (i := i) (d := d) r (by simpa using h)
    exact ⟨v, by simpa using h1, h2⟩
theorem Rps.get' : ∀ {vs : List V} {ds : List D} {i : Nat} {v : V}, Rps K F vs ds → vs[i]? = some v → ∃ d, ds[i]? = some d ∧ Rp K F v d
  | _, _, _, _, .nil, h => by simp at h
  | _, _, 0, _, .cons a _, h => by simp at h; subst h; exact ⟨_, rfl, a⟩
  | _, _, i + 1, d, .cons _ r, h => by
    obtain ⟨v, h1, h2⟩ := Rps.get' (i := i) (v := d) r (by simpa using h)
    exact ⟨v, by simpa using h1, h2⟩
theorem Rps.append : ∀ {vs ws : List V} {ds es : List D}, Rps K F vs ds → Rps K F ws es → Rps K F (vs ++ ws) (ds ++ es)
  | _, _, _, _, .nil, s => s
  | _, _, _, _, .cons h r, s => .cons h (r.append s)
theorem Rps.take : ∀ {vs : List V} {ds : List D} (n : Nat), Rps K F vs ds → Rps K F (vs.take n) (ds.take n)
  | _, _, 0, _ => .nil
  | _, _, _ + 1, .nil => .nil
  | _, _, n + 1, .cons h r => .cons h (r.take n)
theorem Rps.drop : ∀ {vs : List V} {ds : List D} (n : Nat), Rps K F vs ds → Rps K F (vs.drop n) (ds.drop n)
  | _, _, 0, r => r
  | _, _, _ + 1, .nil => .nil
  | _, _, n + 1, .cons _ r => r.drop n
theorem Rps.set {x : V} {y : D} (q : Rp K F x y) : ∀ {vs : List V} {ds : List D} (n : Nat), Rps K F vs ds → Rps K F (vs.set n x) (ds.set n y)
  | _, _, _, .nil => .nil
  | _, _, 0, .cons _ r => .cons q r
  | _, _, n + 1, .cons h r => .cons h (Rps.set q n r)
theorem Rps.one {v : V} {d : D} (h : Rp K F v d) : Rps K F [v] [d] := .cons h .nil
theorem Rps.dropLast {vs : List V} {ds : List D} (r : Rps K F vs ds) : Rps K F vs.dropLast ds.dropLast := by
  rw [List.dropLast_eq_take, List.dropLast_eq_take, r.length]; exact r.take _
theorem Rps.reverse : ∀ {vs : List V} {ds : List D}, Rps K F vs ds → Rps K F vs.reverse ds.reverse
  | _, _, .nil => .nil
  | _, _, .cons h r => by rw [List.reverse_cons, List.reverse_cons]; exact r.reverse.append (.one h)
theorem Rps.ints : ∀ {vs : List V} {ns : List Int}, Rps K F vs (ns.map PyData.int) → vs = ns.map V.int
  | _, [], .nil => rfl
  | _, n :: ns, .cons h r => by
    cases h
    rw [List.map_cons, r.ints]
theorem rps_ints : ∀ (ns : List Int), Rps K F (ns.map V.int) (ns.map PyData.int)
  | [] => .nil
  | n :: ns => .cons (.int n) (rps_ints ns)
theorem Rps.bls : ∀ {vs : List V} {bs : List Bool}, Rps K F vs (bs.map PyData.bool) → vs = bs.map V.bl
  | _, [], .nil => rfl
  | _, n :: ns, .cons h r => by
    cases h
    rw [List.map_cons, r.bls]
end

/-! ### slots -/
/-- a slot: no value; a tree that stands; a list that this slot alone holds; the caller's list, lent -/
inductive Sl
  | un
  | fz (d : D)
  | own (ds : List D)
  | bor (ds : List D)
abbrev Slots := List Sl
abbrev St := L2.St
/-- a value that an expression gives: a tree that stands, or a new list that nothing else holds -/
inductive RV
  | fz (d : D)
  | own (ds : List D)
def RV.d : RV → D
  | .fz d => d
  | .own ds => .list ds
def RV.sl : RV → Sl
  | .fz d => .fz d
  | .own ds => .own ds
def Sl.held : Sl → Bool
  | .own _ => true
  | .bor _ => true
  | _ => false

/-- slot i holds the list at a by itself; by loan -/
def OwnL (ρ : Slots) (σ : St) (i : Nat) (a : Addr) : Prop := ∃ ds, ρ[i]? = some (.own ds) ∧ σ[i]? = some (some (.ref a))
def BorL (ρ : Slots) (σ : St) (i : Nat) (a : Addr) : Prop := ∃ ds, ρ[i]? = some (.bor ds) ∧ σ[i]? = some (some (.ref a))
def Held (ρ : Slots) (σ : St) (a : Addr) : Prop := ∃ i, OwnL ρ σ i a ∨ BorL ρ σ i a
def OwnA (ρ : Slots) (σ : St) (a : Addr) : Prop := ∃ i, OwnL ρ σ i a
theorem OwnA.held {ρ : Slots} {σ : St} {a : Addr} (h : OwnA ρ σ a) : Held ρ σ a := let ⟨i, h⟩ := h; ⟨i, .inl h⟩

def LstR (K : PySem.W.Frag) (F H : Hp) (a : Addr) (ds : List D) : Prop := ∃ vs, H a = some (.lst vs) ∧ Rps K F vs ds
def SltR (K : PySem.W.Frag) (F H : Hp) (s : Sl) (o : Option V) : Prop :=
  match s with
  | .un => True
  | .fz d => ∃ v, o = some v ∧ Rp K F v d
  | .own ds => ∃ a, o = some (.ref a) ∧ LstR K F H a ds
  | .bor ds => ∃ a, o = some (.ref a) ∧ LstR K F H a ds

structure SR (K : PySem.W.Frag) (F H : Hp) (σ : St) (ρ : Slots) : Prop where
  len : ρ.length = σ.length
  sub : Same F H
  slot : ∀ (i : Nat) (s : Sl) (o : Option V), ρ[i]? = some s → σ[i]? = some o → SltR K F H s o
  uniq : ∀ i j a, (OwnL ρ σ i a ∨ BorL ρ σ i a) → (OwnL ρ σ j a ∨ BorL ρ σ j a) → i = j
  out : ∀ a, Held ρ σ a → F a = none

/-- from one state to a later one -/
structure Stp (ρ : Slots) (F : Hp) (σ : St) (H : Hp) (ρ' : Slots) (F' : Hp) (σ' : St) (H' : Hp) : Prop where
  fr : Same F F'
  kp : ∀ a o, H a = some o → ¬ Held ρ σ a → H' a = some o
  nw : ∀ a, F' a ≠ none → F a ≠ none ∨ H a = none ∨ OwnA ρ σ a
  ow : ∀ a, OwnA ρ' σ' a → H a = none ∨ OwnA ρ σ a
  bo : ∀ i a, BorL ρ' σ' i a ↔ BorL ρ σ i a
  dom : ∀ a, H' a = none → H a = none

section
variable {K : PySem.W.Frag} {ρ ρ' ρ'' : Slots} {F F' F'' H H' H'' : Hp} {σ σ' σ'' : St}
theorem Stp.refl : Stp ρ F σ H ρ F σ H := ⟨fun _ _ h => h, fun _ _ h _ => h, fun _ h => .inl h, fun _ h => .inr h, fun _ _ => Iff.rfl, fun _ h => h⟩
theorem Stp.heldBack (s : Stp ρ F σ H ρ' F' σ' H') {a : Addr} (h : Held ρ' σ' a) : H a = none ∨ Held ρ σ a := by
  obtain ⟨i, h | h⟩ := h
  · rcases s.ow a ⟨i, h⟩ with q | q
    · exact .inl q
    · exact .inr q.held
  · exact .inr ⟨i, .inr ((s.bo i a).mp h)⟩
theorem Stp.trans (s : Stp ρ F σ H ρ' F' σ' H') (t : Stp ρ' F' σ' H' ρ'' F'' σ'' H'') : Stp ρ F σ H ρ'' F'' σ'' H'' where
  fr := s.fr.trans t.fr
  kp a o h n := t.kp a o (s.kp a o h n) fun q => by
    rcases s.heldBack q with z | z
    · rw [h] at z; cases z
    · exact n z
  nw a h := by
    rcases t.nw a h with q | q | q
    · exact s.nw a q
    · exact .inr (.inl (s.dom a q))
    · exact (s.ow a q).elim (fun z => .inr (.inl z)) fun z => .inr (.inr z)
  ow a h := by
    rcases t.ow a h with q | q
    · exact .inl (s.dom a q)
    · exact s.ow a q
  bo i a := (t.bo i a).trans (s.bo i a)
  dom a h := s.dom a (t.dom a h)
/-- the slots are what they were -/
theorem Stp.same (fr : Same F F') (kp : ∀ a o, H a = some o → ¬ Held ρ σ a → H' a = some o) (nw : ∀ a, F' a ≠ none → F a ≠ none ∨ H a = none ∨ OwnA ρ σ a) (dom : ∀ a, H' a = none → H a = none) : Stp ρ F σ H ρ F' σ H' :=
  ⟨fr, kp, nw, fun _ h => .inr h, fun _ _ => Iff.rfl, dom⟩
theorem SR.subH (r : SR K F H σ ρ) {a : Addr} {o : HO} (h : F a = some o) : H a = some o := r.sub a o h
theorem SR.heldSome (r : SR K F H σ ρ) {a : Addr} (h : Held ρ σ a) : ∃ ds, LstR K F H a ds := by
  obtain ⟨i, ⟨ds, h1, h2⟩ | ⟨ds, h1, h2⟩⟩ := h
  · obtain ⟨b, e, q⟩ := r.slot i _ _ h1 h2
    cases e; exact ⟨ds, q⟩
  · obtain ⟨b, e, q⟩ := r.slot i _ _ h1 h2
    cases e; exact ⟨ds, q⟩
theorem SR.heldNe (r : SR K F H σ ρ) {a : Addr} (h : H a = none) : ¬ Held ρ σ a := fun q => by
  obtain ⟨ds, vs, e, _⟩ := r.heldSome q
  rw [h] at e; cases e
theorem LstR.mono {a : Addr} {ds : List D} (e : Same F F') (h : LstR K F H a ds) (k : H' a = H a) : LstR K F' H' a ds := by
  obtain ⟨vs, h1, h2⟩ := h
  exact ⟨vs, k.trans h1, h2.mono e⟩
end
end TL
end
section
set_option autoImplicit false
/-! TL2: the small language of trees: its terms, and what must hold of a run (wp) -/
namespace TL
open PySem PySem.Spec PyProof.Rows L2

/-! ### terms -/
mutual
inductive TG
  | var (i : Nat)
  | tup (ts : TGs)
inductive TGs
  | nil
  | cons (t : TG) (ts : TGs)
end
inductive B1
  | len | abs | min | max | sum | all | any | sorted | sortset | tuprng | dctenum | tuple | list | int | str | repr
  deriving DecidableEq
inductive B2
  | min | max
  deriving DecidableEq
inductive M1
  | sw | ew | ix | ixd
  deriving DecidableEq
mutual
inductive CE
  | var (i : Nat)
  | lit (d : D)
  | glb (x : String)
  | tup (es : CEs)
  | lst (es : CEs)
  | emp
  | bin (o : Operator) (a b : CE)
  | neg (a : CE)
  | nt (a : CE)
  | cmp (o : CmpOp) (a b : CE)
  | chn (o o' : CmpOp) (a b c : CE)
  | and (a b : CE)
  | or (a b : CE)
  | ife (t : CT) (a b : CE)
  | idx (a i : CE)
  | slc (a : CE) (lo hi : CO)
  | rvs (a : CE)
  | dc1 (k : Int) (a : CE)
  | dc2 (k k2 : Int) (a b : CE)
  | met (m : M1) (a b : CE)
  | call (f : String) (es : CEs)
  | pcall (f : String) (i : Nat) (es : CEs)
  | bl1 (b : B1) (a : CE)
  | bl2 (b : B2) (a b' : CE)
  | isi (a : CE) (ts : List String)
  | pop (i : Nat)
  | lc (e : CE) (t : TG) (it : IT) (c : CTO) (own : List Nat)
  | lc2 (e : CE) (t : TG) (it : IT) (c : CTO) (t1 : TG) (it1 : IT) (c1 : CTO) (own own1 : List Nat)
inductive CEs
  | nil
  | cons (e : CE) (es : CEs)
inductive CO
  | no
  | so (e : CE)
inductive CT
  | of (e : CE)
  | and (a b : CT)
  | or (a b : CT)
  | nt (a : CT)
  | ite (c a b : CT)
inductive CTO
  | no
  | so (t : CT)
inductive IT
  | of (e : CE)
  | rng1 (a : CE)
  | rng2 (a b : CE)
  | rng3 (a b : CE) (c : Int)
  | enum (a : CE)
  | zip (a b : CE) (strict : Option Bool)
  | rev (a : CE)
end
mutual
inductive CS
  | asg (t : TG) (e : CE)
  | par (is : List Nat) (es : CEs)
  | sub (i : Nat) (ix e : CE)
  | swp (i : Nat) (j1 j2 e1 e2 : CE)
  | aug (i : Nat) (o : Operator) (e : CE)
  | augs (i : Nat) (ix : CE) (o : Operator) (e : CE)
  | exp (e : CE)
  | app (i : Nat) (e : CE)
  | ite (t : CT) (a b : CSs)
  | for (t : TG) (it : IT) (b : CSs)
  | whl (t : CT) (b : CSs)
  | ret (e : CE)
  | retN
  | brk
  | cnt
  | pas
inductive CSs
  | nil
  | cons (s : CS) (ss : CSs)
end

/-! ### what operations give, by trees -/
def MulOk (i j : Int) : Prop := i.natAbs.log2 + j.natAbs.log2 < 1000000
def DivOk (j : Int) : Prop := j ≠ 0 ∧ j.natAbs.log2 < 9000
def PowOk (i j : Int) : Prop := 0 ≤ j ∧ j ≤ 1000000 ∧ i.natAbs < 2 ^ 64
abbrev VQ := RV → Prop
def wpBin (o : Operator) (x y : D) (Q : VQ) : Prop :=
  match o, x, y with
  | .Add, .int i, .int j => Q (.fz (.int (i + j)))
  | .Sub, .int i, .int j => Q (.fz (.int (i - j)))
  | .Mult, .int i, .int j => MulOk i j ∧ Q (.fz (.int (i * j)))
  | .FloorDiv, .int i, .int j => DivOk j ∧ Q (.fz (.int (i.fdiv j)))
  | .Mod, .int i, .int j => j ≠ 0 ∧ Q (.fz (.int (i.fmod j)))
  | .Pow, .int i, .int j => PowOk i j ∧ Q (.fz (.int (i ^ j.toNat)))
  | .Add, .str a, .str b => a.length + b.length ≤ sizeLine ∧ Q (.fz (.str (a ++ b)))
  | .Add, .tuple xs, .tuple ys => xs.length + ys.length ≤ sizeLine ∧ Q (.fz (.tuple (xs ++ ys)))
  | .Add, .list xs, .list ys => xs.length + ys.length ≤ sizeLine ∧ Q (.own (xs ++ ys))
  | .Mult, .list xs, .int k => -(2 ^ 63) ≤ k ∧ k < 2 ^ 63 ∧ xs.length * k.toNat ≤ sizeLine ∧ Q (.own (List.replicate k.toNat xs).flatten)
  | .Mult, .tuple xs, .int k => 0 ≤ k ∧ k ≤ 1000 ∧ xs.length ≤ 1000 ∧ Q (.fz (.tuple (List.replicate k.toNat xs).flatten))
  | _, _, _ => False
/-- the in-place forms of whole numbers -/
def wpAug (o : Operator) (x y : D) (Q : VQ) : Prop :=
  match o, x, y with
  | .Add, .int i, .int j => Q (.fz (.int (i + j)))
  | .Sub, .int i, .int j => Q (.fz (.int (i - j)))
  | .Mult, .int i, .int j => MulOk i j ∧ Q (.fz (.int (i * j)))
  | _, _, _ => False
def flatD : D → Bool
  | .none => true
  | .bool _ => true
  | .int _ => true
  | .str _ => true
  | _ => false
def inD (x : D) (ys : List D) : Bool := ys.any fun y => PyData.eqv y x
def isStr : D → Bool
  | .str _ => true
  | _ => false
def eqA : D → D → Bool
  | .str _, .str _ => true
  | .tuple _, .tuple [] => true
  | _, _ => false
def EqOk (x y : D) : Prop := (eqA x y = true ∧ eqA x y = true) ∨ (SeqAt.shaped x = true ∧ SeqAt.shaped y = true)
def isNone : D → Bool
  | .none => true
  | _ => false
def wpIn (neg : Bool) (x : D) (ys : List D) (Q : D → Prop) : Prop := flatD x = true ∧ ys.all flatD = true ∧ Q (.bool (if neg then !inD x ys else inD x ys))
def intOf : D → Int
  | .int i => i
  | _ => 0
def isInt : D → Bool
  | .int _ => true
  | _ => false
def wpCmp (o : CmpOp) (x y : D) (Q : D → Prop) : Prop :=
  match o with
  | .Eq => EqOk x y ∧ Q (.bool (PyData.eqv x y))
  | .NotEq => EqOk x y ∧ Q (.bool (!PyData.eqv x y))
  | .Lt => match x, y with
    | .int i, .int j => Q (.bool (decide (i < j)))
    | .tuple xs, .tuple ys => xs.all isInt = true ∧ ys.all isInt = true ∧ Q (.bool (HT.lexLt (xs.map intOf) (ys.map intOf)))
    | _, _ => False
  | .LtE => match x, y with
    | .int i, .int j => Q (.bool (decide (i ≤ j)))
    | .bool a, .bool b => Q (.bool (!a || b))
    | _, _ => False
  | .Gt => match x, y with
    | .int i, .int j => Q (.bool (decide (j < i)))
    | _, _ => False
  | .GtE => match x, y with
    | .int i, .int j => Q (.bool (decide (j ≤ i)))
    | _, _ => False
  | .Is => match x, y with
    | .bool a, .bool b => Q (.bool (decide (a = b)))
    | x, .none => Q (.bool (isNone x))
    | _, _ => False
  | .IsNot => match x, y with
    | .bool a, .bool b => Q (.bool (!decide (a = b)))
    | x, .none => Q (.bool (!isNone x))
    | _, _ => False
  | .In => match y with
    | .list ys => wpIn false x ys Q
    | .tuple ys => wpIn false x ys Q
    | _ => False
  | .NotIn => match y with
    | .list ys => wpIn true x ys Q
    | .tuple ys => wpIn true x ys Q
    | _ => False
def wpTru (x : D) (Q : Bool → Prop) : Prop :=
  match x with
  | .none => Q false
  | .bool b => Q b
  | .int i => Q (i != 0)
  | .str s => s.length ≤ sizeLine ∧ Q ((s.length : Int) != 0)
  | .list xs => Q (!xs.isEmpty)
  | .tuple xs => Q (!xs.isEmpty)
  | .dict kvs => Q (!kvs.isEmpty)
def wpIdx (x i : D) (Q : D → Prop) : Prop :=
  match x, i with
  | .list xs, .int k => ∃ d, atI xs k = some d ∧ Q d
  | .tuple xs, .int k => ∃ d, atI xs k = some d ∧ Q d
  | _, _ => False
def cutD (xs : List D) (lo hi : Option Int) : List D := (xs.drop (HT.sIx xs.length 0 lo)).take (HT.sIx xs.length xs.length hi - HT.sIx xs.length 0 lo)
def wpSlc (x : D) (lo hi : Option Int) (Q : VQ) : Prop :=
  match x with
  | .list xs => Q (.own (cutD xs lo hi))
  | .tuple xs => Q (.fz (.tuple (cutD xs lo hi)))
  | _ => False
/-- xs[::-1] -/
def wpRvs (x : D) (Q : VQ) : Prop :=
  match x with
  | .list xs => Q (.own xs.reverse)
  | .tuple xs => Q (.fz (.tuple xs.reverse))
  | _ => False
def boolOf : D → Bool
  | .bool b => b
  | _ => false
def isBool : D → Bool
  | .bool _ => true
  | _ => false
def sortI (ns : List Int) : List Int := ns.mergeSort (fun a b => decide (a ≤ b))
mutual
def hasLst : D → Bool
  | .list _ => true
  | .tuple xs => hasLsts xs
  | .dict kvs => hasLstK kvs
  | _ => false
def hasLsts : List D → Bool
  | [] => false
  | x :: xs => hasLst x || hasLsts xs
def hasLstK : List (D × D) → Bool
  | [] => false
  | (a, b) :: xs => hasLst a || hasLst b || hasLstK xs
end
/-- the numbers from j on -/
def numsD : Nat → Nat → List D
  | _, 0 => []
  | j, n + 1 => .int (j : Nat) :: numsD (j + 1) n
def wpB1 (b : B1) (x : D) (Q : VQ) : Prop :=
  match b, x with
  | .len, .list xs => Q (.fz (.int xs.length))
  | .len, .tuple xs => Q (.fz (.int xs.length))
  | .len, .str s => s.length ≤ sizeLine ∧ Q (.fz (.int s.length))
  | .abs, .int i => Q (.fz (.int i.natAbs))
  | .min, .list xs => xs.all isInt = true ∧ xs ≠ [] ∧ ∀ m : Int, .int m ∈ xs → (∀ y, .int y ∈ xs → m ≤ y) → Q (.fz (.int m))
  | .max, .list xs => xs.all isInt = true ∧ xs ≠ [] ∧ ∀ m : Int, .int m ∈ xs → (∀ y, .int y ∈ xs → y ≤ m) → Q (.fz (.int m))
  | .sum, .list xs => xs.all isInt = true ∧ Q (.fz (.int (xs.map intOf).sum))
  | .all, .list xs => xs.all isBool = true ∧ Q (.fz (.bool ((xs.map boolOf).all id)))
  | .any, .list xs => xs.all isBool = true ∧ Q (.fz (.bool ((xs.map boolOf).any id)))
  | .sorted, .list xs => xs.all isInt = true ∧ Q (.own ((sortI (xs.map intOf)).map .int))
  | .sortset, .list xs => xs.all isInt = true ∧ xs.length < 64 ∧ ∀ ms : List Int, ms.Pairwise (· < ·) → (∀ k, k ∈ ms ↔ k ∈ xs.map intOf) → Q (.own (ms.map .int))
  | .sortset, .tuple xs => xs.all isInt = true ∧ xs.length < 64 ∧ ∀ ms : List Int, ms.Pairwise (· < ·) → (∀ k, k ∈ ms ↔ k ∈ xs.map intOf) → Q (.own (ms.map .int))
  | .tuprng, .int n => 0 ≤ n ∧ n ≤ 1000 ∧ Q (.fz (.tuple ((List.range n.toNat).map fun i => .int (i : Nat))))
  | .dctenum, .list xs => xs.length ≤ 1000 ∧ Q (.fz (.dict ((numsD 0 xs.length).zip xs)))
  | .dctenum, .tuple xs => xs.length ≤ 1000 ∧ Q (.fz (.dict ((numsD 0 xs.length).zip xs)))
  | .tuple, .list xs => Q (.fz (.tuple xs))
  | .tuple, .tuple xs => Q (.fz (.tuple xs))
  | .list, .list xs => Q (.own xs)
  | .list, .tuple xs => Q (.own xs)
  | .int, .int i => Q (.fz (.int i))
  | .int, .bool k => Q (.fz (.int (if k then 1 else 0)))
  | .str, .int i => i.natAbs.log2 < 1920 ∧ Q (.fz (.str (toString i)))
  | .repr, x => x.showable = true ∧ x.depth ≤ 64 ∧ x.shown.length ≤ sizeLine ∧ Q (.fz (.str x.shown))
  | _, _ => False
def wpB2 (b : B2) (x y : D) (Q : VQ) : Prop :=
  match b, x, y with
  | .min, .int i, .int j => Q (.fz (.int (if j < i then j else i)))
  | .max, .int i, .int j => Q (.fz (.int (if j > i then j else i)))
  | _, _, _ => False
def tyM : M1 → String
  | .sw => "str"
  | .ew => "str"
  | .ix => "list"
  | .ixd => "list"
/-- a method of one value -/
def wpM1 (m : M1) (x y : D) (Q : D → Prop) : Prop :=
  match m, x, y with
  | .sw, .str a, .str b => Q (.bool (Txt.startswith a b))
  | .ew, .str a, .str b => Q (.bool (Txt.endswith a b))
  | .ix, .list xs, y => flatD y = true ∧ xs.all flatD = true ∧ ∃ (j : Nat) (z : D), xs[j]? = some z ∧ PyData.eqv z y = true ∧ (∀ (m : Nat) (z' : D), m < j → xs[m]? = some z' → PyData.eqv z' y = false) ∧ Q (.int j)
  | .ixd, .list xs, y => SeqAt.shaped (.list xs) = true ∧ SeqAt.shaped y = true ∧ ∃ (j : Nat) (z : D), xs[j]? = some z ∧ PyData.eqv z y = true ∧ (∀ (m : Nat) (z' : D), m < j → xs[m]? = some z' → PyData.eqv z' y = false) ∧ Q (.int j)
  | _, _, _ => False
/-- the built-in type's name of a tree -/
def tyD : D → String
  | .none => "NoneType"
  | .bool _ => "bool"
  | .int _ => "int"
  | .str _ => "str"
  | .list _ => "list"
  | .tuple _ => "tuple"
  | .dict _ => "dict"
/-- isinstance of a type by the name -/
def isiD (x : D) (t : String) : Bool := tyD x == t || (tyD x == "bool" && t == "int")

/-! ### the run -/
abbrev CallW := String → List D → (RV → List D → Prop) → Prop
inductive Op
  | val (d : D)
  | slot (i : Nat)
def lkS (s : Option Sl) (k : D → Prop) : Prop := match s with
  | some (.fz d) => k d
  | some (.own ds) => k (.list ds)
  | some (.bor ds) => k (.list ds)
  | _ => False
def lk (ρ : Slots) (o : Op) (k : D → Prop) : Prop := match o with
  | .val d => k d
  | .slot i => lkS ρ[i]? k
abbrev WE := Slots → (RV → Slots → Prop) → Prop
/-- an operand: a slot is looked at when the operation is done -/
def opd (e : CE) (w : WE) (ρ : Slots) (k : Op → Slots → Prop) : Prop := match e with
  | .var i => lkS ρ[i]? (fun _ => True) ∧ k (.slot i) ρ
  | _ => w ρ fun r ρ' => k (.val r.d) ρ'
/-- a slot that may be stored to -/
def canSet (ρ : Slots) (i : Nat) : Prop := match ρ[i]? with
  | some (.bor _) => False
  | some _ => True
  | none => False
mutual
def wpTG : TG → RV → Slots → (Slots → Prop) → Prop
  | .var i, r, ρ, k => canSet ρ i ∧ k (ρ.set i r.sl)
  | .tup ts, r, ρ, k => match r with
    | .fz (.tuple ds) => wpTGs ts ds ρ k
    | _ => False
def wpTGs : TGs → List D → Slots → (Slots → Prop) → Prop
  | .nil, ds, ρ, k => ds = [] ∧ k ρ
  | .cons t ts, ds, ρ, k => match ds with
    | d :: ds => wpTG t (.fz d) ρ fun ρ' => wpTGs ts ds ρ' k
    | [] => False
end
/-- the slots of a comprehension's own names: forgotten within, as they were behind -/
def wipeS (ρ : Slots) : List Nat → Slots
  | [] => ρ
  | v :: vs => (wipeS ρ vs).set v .un
def backS (ρ ρ' : Slots) : List Nat → Slots
  | [] => ρ'
  | v :: vs => (backS ρ ρ' vs).set v (ρ.getD v .un)
def freeS (ρ : Slots) (own : List Nat) : Prop := ∀ i ∈ own, (ρ.getD i .un).held = false
def lcGo (own : List Nat) (t : TG) (test : Slots → (Bool → Slots → Prop) → Prop) (elt : WE) : List D → List D → Slots → (List D → Slots → Prop) → Prop
  | [], acc, ρ, k => k acc ρ
  | d :: ds, acc, ρ, k => wpTG t (.fz d) (wipeS ρ own) fun ρ1 => test ρ1 fun b ρ2 =>
      if b = true then elt ρ2 fun r ρ3 => acc.length < sizeLine ∧ lcGo own t test elt ds (acc ++ [r.d]) ρ3 k
      else lcGo own t test elt ds acc ρ2 k
def lc2Go (own own1 : List Nat) (t : TG) (test : Slots → (Bool → Slots → Prop) → Prop) (t1 : TG) (it1 : Slots → (List D → Slots → Prop) → Prop) (test1 : Slots → (Bool → Slots → Prop) → Prop) (elt : WE) : List D → List D → Slots → (List D → Slots → Prop) → Prop
  | [], acc, ρ, k => k acc ρ
  | d :: ds, acc, ρ, k => wpTG t (.fz d) (wipeS ρ own) fun ρ1 => test ρ1 fun b ρ2 =>
      if b = true then it1 ρ2 fun ds1 ρ3 => lcGo own1 t1 test1 elt ds1 acc ρ3 fun acc ρ4 => lc2Go own own1 t test t1 it1 test1 elt ds acc ρ4 k
      else lc2Go own own1 t test t1 it1 test1 elt ds acc ρ2 k
structure WEnds where
  nx : Slots → Prop
  rt : RV → Slots → Prop
  bk : Slots → Prop
  ct : Slots → Prop
def forGo (t : TG) (body : Slots → WEnds → Prop) : List D → Slots → WEnds → Prop
  | [], ρ, E => E.nx ρ
  | d :: ds, ρ, E => wpTG t (.fz d) ρ fun ρ1 => body ρ1 { nx := fun ρ2 => forGo t body ds ρ2 E, rt := E.rt, bk := E.nx, ct := fun ρ2 => forGo t body ds ρ2 E }
def whGo (test : Slots → (Bool → Slots → Prop) → Prop) (body : Slots → WEnds → Prop) : Nat → Slots → WEnds → Prop
  | 0, _, _ => False
  | n + 1, ρ, E => test ρ fun b ρ1 => if b = true then body ρ1 { nx := fun ρ2 => whGo test body n ρ2 E, rt := E.rt, bk := E.nx, ct := fun ρ2 => whGo test body n ρ2 E } else E.nx ρ1
def pairs (xs ys : List D) : List D := (xs.zip ys).map fun p => .tuple [p.1, p.2]
def enumD (xs : List D) : List D := xs.zipIdx.map fun p => .tuple [.int (p.2 : Nat), p.1]
def itemsD (x : D) (k : List D → Prop) : Prop := match x with
  | .list xs => k xs
  | .tuple xs => k xs
  | _ => False
def lstD (x : D) (k : List D → Prop) : Prop := match x with
  | .list xs => k xs
  | _ => False
def zipD (st : Option Bool) (x y : D) (k : List D → Prop) : Prop := itemsD x fun xs => itemsD y fun ys => (st = some true → xs.length = ys.length) ∧ k (pairs xs ys)
def rngOk (j : Int) : Prop := -(2 ^ 62) ≤ j ∧ j < 2 ^ 62
def rngD (lo hi : Int) : List D := (List.range (hi - lo).toNat).map fun i => .int (lo + (i : Nat))
def rng3D (lo hi c : Int) : List D := (List.range (Builtin.Range.rangeSize lo hi c).toNat).map fun i => .int (lo + (i : Nat) * c)
def wpVar (i : Nat) (ρ : Slots) (Q : RV → Slots → Prop) : Prop := match ρ[i]? with
  | some (.fz d) => Q (.fz d) ρ
  | some (.own ds) => Q (.fz (.list ds)) (ρ.set i (.fz (.list ds)))
  | _ => False
/-- a list that a slot holds: read, written -/
def heldS (ρ : Slots) (i : Nat) (k : List D → Prop) : Prop := match ρ[i]? with
  | some (.own ds) => k ds
  | some (.bor ds) => k ds
  | _ => False
def setH (ρ : Slots) (i : Nat) (ds : List D) : Slots := match ρ[i]? with
  | some (.own _) => ρ.set i (.own ds)
  | some (.bor _) => ρ.set i (.bor ds)
  | _ => ρ
def asInt (d : D) (k : Int → Prop) : Prop := match d with
  | .int i => k i
  | _ => False
def asBool (d : D) (k : Bool → Prop) : Prop := match d with
  | .bool i => k i
  | _ => False
/-- a list's cell is written: x[ix] = d, x a slot that holds the list -/
def subW (i : Nat) (w : WE) (d : D) (ρ : Slots) (k : Slots → Prop) : Prop := heldS ρ i (fun _ => True) ∧ w ρ fun r' ρ2 => asInt r'.d fun n => heldS ρ2 i fun ds => ∃ j, ixN ds.length n = some j ∧ k (setH ρ2 i (ds.set j d))
section
variable (G : String → Option D) (C : CallW)
mutual
def wpE : CE → Slots → (RV → Slots → Prop) → Prop
  | .var i, ρ, Q => wpVar i ρ Q
  | .lit d, ρ, Q => Q (.fz d) ρ
  | .glb x, ρ, Q => match G x with
    | some d => Q (.fz d) ρ
    | none => False
  | .tup es, ρ, Q => wpEs es ρ fun rs ρ1 => rs.length ≤ sizeLine ∧ Q (.fz (.tuple (rs.map RV.d))) ρ1
  | .lst es, ρ, Q => wpEs es ρ fun rs ρ1 => rs.length ≤ sizeLine ∧ Q (.own (rs.map RV.d)) ρ1
  | .emp, ρ, Q => Q (.fz (.dict [])) ρ
  | .bin o a b, ρ, Q => opd a (wpE a) ρ fun oa ρ1 => opd b (wpE b) ρ1 fun ob ρ2 => lk ρ2 oa fun x => lk ρ2 ob fun y => wpBin o x y fun r => Q r ρ2
  | .neg a, ρ, Q => opd a (wpE a) ρ fun oa ρ1 => lk ρ1 oa fun x => asInt x fun i => Q (.fz (.int (-i))) ρ1
  | .nt a, ρ, Q => opd a (wpE a) ρ fun oa ρ1 => lk ρ1 oa fun x => asBool x fun b => Q (.fz (.bool (!b))) ρ1
  | .cmp o a b, ρ, Q => opd a (wpE a) ρ fun oa ρ1 => opd b (wpE b) ρ1 fun ob ρ2 => lk ρ2 oa fun x => lk ρ2 ob fun y => wpCmp o x y fun d => Q (.fz d) ρ2
  | .chn o o' a b c, ρ, Q => opd a (wpE a) ρ fun oa ρ1 => opd b (wpE b) ρ1 fun ob ρ2 => lk ρ2 oa fun x => lk ρ2 ob fun y => wpCmp o x y fun d => asBool d fun k =>
      if k = true then opd c (wpE c) ρ2 fun oc ρ3 => lk ρ3 ob fun y' => lk ρ3 oc fun z => wpCmp o' y' z fun d' => Q (.fz d') ρ3 else Q (.fz (.bool false)) ρ2
  | .and a b, ρ, Q => wpE a ρ fun r ρ1 => asBool r.d fun k => if k = true then wpE b ρ1 Q else Q (.fz (.bool false)) ρ1
  | .or a b, ρ, Q => wpE a ρ fun r ρ1 => asBool r.d fun k => if k = true then Q (.fz (.bool true)) ρ1 else wpE b ρ1 Q
  | .ife t a b, ρ, Q => wpT t ρ fun k ρ1 => if k = true then wpE a ρ1 Q else wpE b ρ1 Q
  | .idx a i, ρ, Q => opd a (wpE a) ρ fun oa ρ1 => opd i (wpE i) ρ1 fun oi ρ2 => lk ρ2 oa fun x => lk ρ2 oi fun y => wpIdx x y fun d => Q (.fz d) ρ2
  | .slc a lo hi, ρ, Q => opd a (wpE a) ρ fun oa ρ1 => wpCO lo ρ1 fun l ρ2 => wpCO hi ρ2 fun h ρ3 => lk ρ3 oa fun x => wpSlc x l h fun r => Q r ρ3
  | .rvs a, ρ, Q => opd a (wpE a) ρ fun oa ρ1 => lk ρ1 oa fun x => wpRvs x fun r => Q r ρ1
  | .dc1 k a, ρ, Q => wpE a ρ fun r ρ1 => Q (.fz (.dict [(.int k, r.d)])) ρ1
  | .dc2 k k2 a b, ρ, Q => k ≠ k2 ∧ wpE a ρ fun r ρ1 => wpE b ρ1 fun r2 ρ2 => Q (.fz (.dict [(.int k, r.d), (.int k2, r2.d)])) ρ2
  | .met m a b, ρ, Q => opd a (wpE a) ρ fun oa ρ1 => lk ρ1 oa (fun x => tyD x = tyM m) ∧ opd b (wpE b) ρ1 fun ob ρ2 => lk ρ2 oa fun x => lk ρ2 ob fun y => wpM1 m x y fun d => Q (.fz d) ρ2
  | .call f es, ρ, Q => wpEs es ρ fun rs ρ1 => C f (rs.map RV.d) fun r _ => Q r ρ1
  | .pcall f i es, ρ, Q => heldS ρ i (fun _ => True) ∧ wpEs es ρ fun rs ρ1 => heldS ρ1 i fun ds => C f (.list ds :: rs.map RV.d) fun r out => Q r (setH ρ1 i out)
  | .bl1 b a, ρ, Q => opd a (wpE a) ρ fun oa ρ1 => lk ρ1 oa fun x => wpB1 b x fun r => Q r ρ1
  | .bl2 b a a', ρ, Q => opd a (wpE a) ρ fun oa ρ1 => opd a' (wpE a') ρ1 fun ob ρ2 => lk ρ2 oa fun x => lk ρ2 ob fun y => wpB2 b x y fun r => Q r ρ2
  | .isi a ts, ρ, Q => opd a (wpE a) ρ fun oa ρ1 => lk ρ1 oa fun x => Q (.fz (.bool (ts.any (isiD x)))) ρ1
  | .pop i, ρ, Q => heldS ρ i fun ds => ∃ d, ds[ds.length - 1]? = some d ∧ Q (.fz d) (setH ρ i ds.dropLast)
  | .lc e t it c own, ρ, Q => wpIt it ρ fun ds ρ1 => freeS ρ1 own ∧ lcGo own t (wpCT c) (wpE e) ds [] ρ1 fun acc ρ2 => Q (.own acc) (backS ρ1 ρ2 own)
  | .lc2 e t it c t1 it1 c1 own own1, ρ, Q => wpIt it ρ fun ds ρ1 => freeS ρ1 own ∧ lc2Go own own1 t (wpCT c) t1 (wpIt it1) (wpCT c1) (wpE e) ds [] ρ1 fun acc ρ2 => Q (.own acc) (backS ρ1 ρ2 own)
def wpEs : CEs → Slots → (List RV → Slots → Prop) → Prop
  | .nil, ρ, Q => Q [] ρ
  | .cons e es, ρ, Q => wpE e ρ fun r ρ1 => wpEs es ρ1 fun rs ρ2 => Q (r :: rs) ρ2
def wpCO : CO → Slots → (Option Int → Slots → Prop) → Prop
  | .no, ρ, Q => Q none ρ
  | .so e, ρ, Q => wpE e ρ fun r ρ1 => asInt r.d fun i => Q (some i) ρ1
def wpT : CT → Slots → (Bool → Slots → Prop) → Prop
  | .of e, ρ, Q => opd e (wpE e) ρ fun o ρ1 => lk ρ1 o fun x => wpTru x fun b => Q b ρ1
  | .and a b, ρ, Q => wpT a ρ fun k ρ1 => if k = true then wpT b ρ1 Q else Q false ρ1
  | .or a b, ρ, Q => wpT a ρ fun k ρ1 => if k = true then Q true ρ1 else wpT b ρ1 Q
  | .nt a, ρ, Q => wpT a ρ fun k ρ1 => Q (!k) ρ1
  | .ite c a b, ρ, Q => wpT c ρ fun k ρ1 => if k = true then wpT a ρ1 Q else wpT b ρ1 Q
def wpCT : CTO → Slots → (Bool → Slots → Prop) → Prop
  | .no, ρ, Q => Q true ρ
  | .so t, ρ, Q => wpT t ρ Q
def wpIt : IT → Slots → (List D → Slots → Prop) → Prop
  | .of e, ρ, Q => wpE e ρ fun r ρ1 => itemsD r.d fun xs => Q xs ρ1
  | .rng1 a, ρ, Q => wpE a ρ fun r ρ1 => asInt r.d fun j => rngOk j ∧ Q (rngD 0 j) ρ1
  | .rng2 a b, ρ, Q => wpE a ρ fun r ρ1 => wpE b ρ1 fun r' ρ2 => asInt r.d fun i => asInt r'.d fun j => rngOk i ∧ rngOk j ∧ Q (rngD i j) ρ2
  | .rng3 a b c, ρ, Q => wpE a ρ fun r ρ1 => wpE b ρ1 fun r' ρ2 => asInt r.d fun i => asInt r'.d fun j => c ≠ 0 ∧ c.natAbs < 1000 ∧ Builtin.Range.small i j c = true ∧ Q (rng3D i j c) ρ2
  | .enum a, ρ, Q => wpE a ρ fun r ρ1 => itemsD r.d fun xs => Q (enumD xs) ρ1
  | .zip a b st, ρ, Q => wpE a ρ fun r ρ1 => wpE b ρ1 fun r' ρ2 => zipD st r.d r'.d fun ds => Q ds ρ2
  | .rev a, ρ, Q => wpE a ρ fun r ρ1 => itemsD r.d fun xs => Q xs.reverse ρ1
end
mutual
def wpS : CS → Slots → WEnds → Prop
  | .asg t e, ρ, E => wpE G C e ρ fun r ρ1 => wpTG t r ρ1 E.nx
  | .par is es, ρ, E => wpEs G C es ρ fun rs ρ1 => rs.length = is.length ∧ (∀ i ∈ is, canSet ρ1 i) ∧ E.nx ((is.zip rs).foldl (fun ρ p => ρ.set p.1 p.2.sl) ρ1)
  | .sub i ix e, ρ, E => wpE G C e ρ fun r ρ1 => heldS ρ1 i (fun _ => True) ∧ wpE G C ix ρ1 fun r' ρ2 => asInt r'.d fun k => heldS ρ2 i fun ds => ∃ j, ixN ds.length k = some j ∧ E.nx (setH ρ2 i (ds.set j r.d))
  | .swp i j1 j2 e1 e2, ρ, E => wpE G C e1 ρ fun r1 ρ1 => wpE G C e2 ρ1 fun r2 ρ2 => [r1, r2].length ≤ sizeLine ∧ subW i (wpE G C j1) r1.d ρ2 fun ρ3 => subW i (wpE G C j2) r2.d ρ3 E.nx
  | .aug i o e, ρ, E => wpVar i ρ fun r ρ1 => wpE G C e ρ1 fun r' ρ2 => wpAug o r.d r'.d fun z => canSet ρ2 i ∧ E.nx (ρ2.set i z.sl)
  | .augs i ix o e, ρ, E => heldS ρ i (fun _ => True) ∧ wpE G C ix ρ fun rk ρ1 => asInt rk.d fun k => heldS ρ1 i fun ds => ∃ d, atI ds k = some d ∧ wpE G C e ρ1 fun r ρ2 => wpAug o d r.d fun z => heldS ρ2 i fun ds => ∃ j, ixN ds.length k = some j ∧ E.nx (setH ρ2 i (ds.set j z.d))
  | .exp e, ρ, E => wpE G C e ρ fun _ ρ1 => E.nx ρ1
  | .app i e, ρ, E => heldS ρ i (fun _ => True) ∧ wpE G C e ρ fun r ρ1 => heldS ρ1 i fun ds => ds.length < sizeLine ∧ E.nx (setH ρ1 i (ds ++ [r.d]))
  | .ite t a b, ρ, E => wpT G C t ρ fun k ρ1 => if k = true then wpSs a ρ1 E else wpSs b ρ1 E
  | .for t it b, ρ, E => wpIt G C it ρ fun ds ρ1 => forGo t (wpSs b) ds ρ1 E
  | .whl t b, ρ, E => ∃ n, whGo (wpT G C t) (wpSs b) n ρ E
  | .ret e, ρ, E => match e with
    | .var i => match ρ[i]? with
      | some (.own ds) => E.rt (.own ds) (ρ.set i .un)
      | some (.fz d) => E.rt (.fz d) ρ
      | _ => False
    | e => wpE G C e ρ E.rt
  | .retN, ρ, E => E.rt (.fz .none) ρ
  | .brk, ρ, E => E.bk ρ
  | .cnt, ρ, E => E.ct ρ
  | .pas, ρ, E => E.nx ρ
def wpSs : CSs → Slots → WEnds → Prop
  | .nil, ρ, E => E.nx ρ
  | .cons s ss, ρ, E => wpS s ρ { E with nx := fun ρ1 => wpSs ss ρ1 E }
end
end
end TL
end
section
set_option autoImplicit false
/-! TL3: readings of terms as trees; what an operation gives -/
namespace TL
open PySem PySem.Spec PyProof.Rows L2

section
variable {K : PySem.W.Frag} {F F' H H' : Hp} {σ σ' : St} {ρ ρ' : Slots} {v : V} {d : D}

/-- a value read as a tree, at the heap as it stands: a tree that stands, or a list that a slot holds -/
def RdD (K : PySem.W.Frag) (F H : Hp) (v : V) (d : D) : Prop := Rp K F v d ∨ ∃ a ds, v = .ref a ∧ d = .list ds ∧ LstR K F H a ds
theorem RdD.at (h : RdD K F H v d) (e : Same F H) : Rp K H v d := by
  rcases h with h | ⟨a, ds, rfl, rfl, vs, h, r⟩
  · exact h.mono e
  · exact .lst (.inl (.inl h)) (r.mono e)
theorem RdD.list {ds : List D} (h : RdD K F H v (.list ds)) (e : Same F H) : ∃ a vs, v = .ref a ∧ LsL K H a vs ∧ Rps K F vs ds := by
  rcases h with h | ⟨a, ds', rfl, e1, vs, h, r⟩
  · cases h with
    | lst h r => exact ⟨_, _, rfl, sqL_mono e h, r⟩
  · cases e1
    exact ⟨_, _, rfl, .inl (.inl h), r⟩
theorem RdD.tuple {ds : List D} (h : RdD K F H v (.tuple ds)) (e : Same F H) : ∃ a vs, v = .ref a ∧ SqT K H a vs ∧ Rps K F vs ds ∧ Rp K F v (.tuple ds) := by
  rcases h with h | ⟨a, ds', rfl, e1, vs, h, r⟩
  · have h' := h
    cases h with
    | tup h r => exact ⟨_, _, rfl, sqT_mono e h, r, h'⟩
  · cases e1
theorem RdD.int {i : Int} (h : RdD K F H v (.int i)) : v = .int i := by
  rcases h with h | ⟨a, ds', rfl, e1, vs, h, r⟩
  · cases h; rfl
  · cases e1
theorem RdD.bl {i : Bool} (h : RdD K F H v (.bool i)) : v = .bl i := by
  rcases h with h | ⟨a, ds', rfl, e1, vs, h, r⟩
  · cases h; rfl
  · cases e1
theorem RdD.str {i : Str} (h : RdD K F H v (.str i)) : v = .str i := by
  rcases h with h | ⟨a, ds', rfl, e1, vs, h, r⟩
  · cases h; rfl
  · cases e1
theorem RdD.non (h : RdD K F H v .none) : v = .non := by
  rcases h with h | ⟨a, ds', rfl, e1, vs, h, r⟩
  · cases h; rfl
  · cases e1

/-- what an operation gives: a tree that stood, a new tuple, a new list -/
inductive Gives (K : PySem.W.Frag) (F H : Hp) : V → RV → Hp → Hp → Prop
  | old {v : V} {d : D} (h : Rp K F v d) : Gives K F H v (.fz d) F H
  | tup {p : Addr} {vs : List V} {ds : List D} (n : H p = none) (h : Rps K F vs ds) : Gives K F H (.ref p) (.fz (.tuple ds)) (upd F p (.tup vs)) (upd H p (.tup vs))
  | lst {p : Addr} {vs : List V} {ds : List D} (n : H p = none) (h : Rps K F vs ds) : Gives K F H (.ref p) (.own ds) F (upd H p (.lst vs))
  | dct {p : Addr} {ks : List Key} {vs : List V} {ds : List D} (n : H p = none) (l : ks.length = vs.length) (h : Rps K F vs ds) : Gives K F H (.ref p) (.fz (.dict ((ks.map kD).zip ds))) (upd F p (.dK (ks.zip vs))) (upd H p (.dK (ks.zip vs)))

/-- a given value behind a run from (ρ, F, σ, H0) -/
def RVr (K : PySem.W.Frag) (H0 F H : Hp) (σ : St) (ρ : Slots) (v : V) (r : RV) : Prop :=
  match r with
  | .fz d => Rp K F v d
  | .own ds => ∃ a, v = .ref a ∧ LstR K F H a ds ∧ F a = none ∧ ¬ Held ρ σ a ∧ H0 a = none

theorem same_upd' {p : Addr} {o : HO} (h : F p = none) : Same F (upd F p o) := fun b x e => by
  rw [upd_ne (ne_of_none e h)]
  exact e
theorem SR.freeOf (r : SR K F H σ ρ) {p : Addr} (n : H p = none) : F p = none := by
  cases e : F p with
  | none => rfl
  | some o => rw [r.sub _ _ e] at n; cases n
theorem LstR.keep {a : Addr} {ds : List D} (e : Same F F') (k : ∀ o, H a = some o → H' a = some o) (h : LstR K F H a ds) : LstR K F' H' a ds := by
  obtain ⟨vs, h1, h2⟩ := h
  exact ⟨vs, k _ h1, h2.mono e⟩
/-- the state behind new objects and new frozen parts -/
theorem SR.ext (r : SR K F H σ ρ) (fr : Same F F') (sub : Same F' H') (kp : ∀ a o, H a = some o → Held ρ σ a → H' a = some o) (out : ∀ a, Held ρ σ a → F' a = none) : SR K F' H' σ ρ where
  len := r.len
  sub := sub
  slot i s o h1 h2 := by
    have q := r.slot i s o h1 h2
    cases s with
    | un => exact trivial
    | fz d => obtain ⟨v, e, h⟩ := q; exact ⟨v, e, h.mono fr⟩
    | own ds =>
      obtain ⟨a, e, h⟩ := q
      subst e
      exact ⟨a, rfl, h.keep fr fun o e => kp _ _ e ⟨i, .inl ⟨ds, h1, h2⟩⟩⟩
    | bor ds =>
      obtain ⟨a, e, h⟩ := q
      subst e
      exact ⟨a, rfl, h.keep fr fun o e => kp _ _ e ⟨i, .inr ⟨ds, h1, h2⟩⟩⟩
  uniq := r.uniq
  out := out
theorem Gives.step {r : RV} (g : Gives K F H v r F' H') (s : SR K F H σ ρ) : Stp ρ F σ H ρ F' σ H' ∧ SR K F' H' σ ρ ∧ RVr K H F' H' σ ρ v r := by
  cases g with
  | old h => exact ⟨.refl, s, h⟩
  | @tup p vs ds n h =>
    have nF := s.freeOf n
    have e1 : Same F (upd F p (.tup vs)) := same_upd' nF
    have e2 : Same H (upd H p (.tup vs)) := same_upd' n
    have hne : ∀ a, Held ρ σ a → a ≠ p := fun a ha e => by subst e; exact s.heldNe n ha
    refine ⟨.same e1 (fun a o h _ => e2 _ _ h) (fun a ha => ?_) (fun a ha => e2.free ha), s.ext e1 (fun a o ha => ?_) (fun a o ha _ => e2 _ _ ha) (fun a ha => ?_), .tup (SqT.of upd_same) (h.mono e1)⟩
    · by_cases e : a = p
      · subst e; exact .inr (.inl n)
      · rw [upd_ne e] at ha; exact .inl ha
    · by_cases e : a = p
      · subst e; rw [upd_same] at ha ⊢; exact ha
      · rw [upd_ne e] at ha ⊢; exact s.sub _ _ ha
    · rw [upd_ne (hne a ha)]; exact s.out a ha
  | @dct p ks vs ds n l h =>
    have nF := s.freeOf n
    have e1 : Same F (upd F p (.dK (ks.zip vs))) := same_upd' nF
    have e2 : Same H (upd H p (.dK (ks.zip vs))) := same_upd' n
    have hne : ∀ a, Held ρ σ a → a ≠ p := fun a ha e => by subst e; exact s.heldNe n ha
    refine ⟨.same e1 (fun a o h _ => e2 _ _ h) (fun a ha => ?_) (fun a ha => e2.free ha), s.ext e1 (fun a o ha => ?_) (fun a o ha _ => e2 _ _ ha) (fun a ha => ?_), .dct upd_same l (h.mono e1)⟩
    · by_cases e : a = p
      · subst e; exact .inr (.inl n)
      · rw [upd_ne e] at ha; exact .inl ha
    · by_cases e : a = p
      · subst e; rw [upd_same] at ha ⊢; exact ha
      · rw [upd_ne e] at ha ⊢; exact s.sub _ _ ha
    · rw [upd_ne (hne a ha)]; exact s.out a ha
  | @lst p vs ds n h =>
    have nF := s.freeOf n
    have e2 : Same H (upd H p (.lst vs)) := same_upd' n
    refine ⟨.same (fun _ _ h => h) (fun a o h _ => e2 _ _ h) (fun a ha => .inl ha) (fun a ha => e2.free ha), s.ext (fun _ _ h => h) (fun a o ha => e2 _ _ (s.sub _ _ ha)) (fun a o ha _ => e2 _ _ ha) s.out, p, rfl, ⟨vs, upd_same, h⟩, nF, s.heldNe n, n⟩
/-- a new list is made to stand -/
theorem RVr.freeze {F0 H0 : Hp} {σ0 : St} {ρ0 : Slots} {r : RV} (st : Stp ρ0 F0 σ0 H0 ρ F σ H) (s : SR K F H σ ρ) (h : RVr K H0 F H σ ρ v r) :
    ∃ F', Stp ρ0 F0 σ0 H0 ρ F' σ H ∧ SR K F' H σ ρ ∧ Rp K F' v r.d ∧ Same F F' := by
  cases r with
  | fz d => exact ⟨F, st, s, h, fun _ _ h => h⟩
  | own ds =>
    obtain ⟨a, rfl, ⟨vs, h1, h2⟩, nF, nh, n0⟩ := h
    have e1 : Same F (upd F a (.lst vs)) := same_upd' nF
    refine ⟨upd F a (.lst vs), ⟨st.fr.trans e1, st.kp, fun b hb => ?_, st.ow, st.bo, st.dom⟩, s.ext e1 (fun b o hb => ?_) (fun _ _ h _ => h) (fun b hb => ?_), .lst (.inl (.inl upd_same)) (h2.mono e1), e1⟩
    · by_cases e : b = a
      · subst e; exact .inr (.inl n0)
      · rw [upd_ne e] at hb; exact st.nw b hb
    · by_cases e : b = a
      · subst e; rw [upd_same] at hb; cases hb; exact h1
      · rw [upd_ne e] at hb; exact s.sub _ _ hb
    · rw [upd_ne (fun e => nh (by rw [← e]; exact hb))]; exact s.out b hb
theorem RVr.back {H0 H1 : Hp} {r : RV} (h : RVr K H1 F H σ ρ v r) (e : ∀ a, H1 a = none → H0 a = none) : RVr K H0 F H σ ρ v r := by
  cases r with
  | fz d => exact h
  | own ds => obtain ⟨a, e1, h1, h2, h3, h4⟩ := h; exact ⟨a, e1, h1, h2, h3, e a h4⟩
end

/-! ### readings -/
def rdE (K : PySem.W.Frag) (w : WE) : TE := fun σ H Q => ∃ F ρ Qt, SR K F H σ ρ ∧ w ρ Qt ∧ ∀ r ρ' v F' H', Qt r ρ' → Stp ρ F σ H ρ' F' σ H' → SR K F' H' σ ρ' → RVr K H F' H' σ ρ' v r → Q v H'
/-- the same, the value made to stand -/
def rdF (K : PySem.W.Frag) (w : WE) : TE := fun σ H Q => ∃ F ρ Qt, SR K F H σ ρ ∧ w ρ Qt ∧ ∀ r ρ' v F' H', Qt r ρ' → Stp ρ F σ H ρ' F' σ H' → SR K F' H' σ ρ' → Rp K F' v r.d → Q v H'
/-- an operand: its value is a tree that stands, or the slot's -/
def OpRel (K : PySem.W.Frag) (F : Hp) (σ : St) (v : V) (o : Op) : Prop := match o with
  | .val d => Rp K F v d
  | .slot i => σ[i]? = some (some v)
abbrev WO := Slots → (Op → Slots → Prop) → Prop
def rdO (K : PySem.W.Frag) (w : WO) : TE := fun σ H Q => ∃ F ρ Qt, SR K F H σ ρ ∧ w ρ Qt ∧ ∀ o ρ' v F' H', Qt o ρ' → Stp ρ F σ H ρ' F' σ H' → SR K F' H' σ ρ' → OpRel K F' σ v o → Q v H'
def rdT (K : PySem.W.Frag) (w : Slots → (Bool → Slots → Prop) → Prop) : TT := fun σ H Q => ∃ F ρ Qt, SR K F H σ ρ ∧ w ρ Qt ∧ ∀ b ρ' F' H', Qt b ρ' → Stp ρ F σ H ρ' F' σ H' → SR K F' H' σ ρ' → Q b H'

section
variable {K : PySem.W.Frag} {F F' H H' : Hp} {σ : St} {ρ ρ' : Slots} {v : V}
theorem OpRel.mono {o : Op} (e : Same F F') (h : OpRel K F σ v o) : OpRel K F' σ v o := by
  cases o with
  | val d => exact Rp.mono e h
  | slot i => exact h
theorem OpRel.look {o : Op} {k : D → Prop} (s : SR K F H σ ρ) (h : OpRel K F σ v o) (q : lk ρ o k) : ∃ d, RdD K F H v d ∧ k d := by
  cases o with
  | val d => exact ⟨d, .inl h, q⟩
  | slot i =>
    have h' : σ[i]? = some (some v) := h
    have q' : lkS ρ[i]? k := q
    cases e : ρ[i]? with
    | none => rw [e] at q'; exact q'.elim
    | some t =>
      rw [e] at q'
      have z := s.slot i t _ e h'
      cases t with
      | un => exact q'.elim
      | fz d =>
        obtain ⟨v', e1, h1⟩ := z
        cases e1
        exact ⟨d, .inl h1, q'⟩
      | own ds =>
        obtain ⟨a, e1, h1⟩ := z
        cases e1
        exact ⟨_, .inr ⟨a, ds, rfl, rfl, h1⟩, q'⟩
      | bor ds =>
        obtain ⟨a, e1, h1⟩ := z
        cases e1
        exact ⟨_, .inr ⟨a, ds, rfl, rfl, h1⟩, q'⟩
end

section
variable {X : Cx}
theorem _root_.L2.PE.imp {e : Expr} {t t' : TE} (h : PE X e t) (i : ∀ σ H Q, t' σ H Q → t σ H Q) : PE X e t' :=
  ⟨fun pins s σ H Q I q => h.run pins s σ H Q I (i σ H Q q)⟩
theorem _root_.L2.PT.imp {e : Expr} {t t' : TT} (h : PT X e t) (i : ∀ σ H Q, t' σ H Q → t σ H Q) : PT X e t' :=
  ⟨fun pins s σ H Q I q => h.run pins s σ H Q I (i σ H Q q)⟩
theorem _root_.L2.PS.imp {e : Stmt} {t t' : TS} (h : PS X e t) (i : ∀ D σ H, t' D σ H → t D σ H) : PS X e t' :=
  ⟨fun pins s σ H D I q => h.run pins s σ H D I (i D σ H q)⟩
theorem _root_.L2.PSs.imp {e : List Stmt} {t t' : TS} (h : PSs X e t) (i : ∀ D σ H, t' D σ H → t D σ H) : PSs X e t' :=
  ⟨fun pins s σ H D I q => h.run pins s σ H D I (i D σ H q)⟩
theorem _root_.L2.OpR.imp {f : Value → Value → Sem Value} {r r' : R2} (h : OpR X f r) (i : ∀ x y H Q, r' x y H Q → r x y H Q) : OpR X f r' :=
  fun pins s σ H x y v u Q I rx ry q => h pins s σ H x y v u Q I rx ry (i _ _ _ _ q)
theorem _root_.L2.CallR.imp {f : Value} {r r' : List V → Hp → VK → Prop} (h : CallR X f r) (i : ∀ x H Q, r' x H Q → r x H Q) : CallR X f r' :=
  fun pins s σ H xs us Q I rx q => h pins s σ H xs us Q I rx (i _ _ _ q)

/-- from a value to one that stands -/
theorem rdF_of {K : PySem.W.Frag} {w : WE} {σ : St} {H : Hp} {Q : VK} (h : rdF K w σ H Q) : rdE K w σ H Q := by
  obtain ⟨F, ρ, Qt, s, hw, k⟩ := h
  refine ⟨F, ρ, Qt, s, hw, fun r ρ' v F' H' q st s' rv => ?_⟩
  obtain ⟨F2, st2, s2, rp, _⟩ := rv.freeze st s'
  exact k r ρ' v F2 H' q st2 s2 rp
theorem _root_.L2.PE.frz {e : Expr} {w : WE} (h : PE X e (rdE X.K w)) : PE X e (rdF X.K w) := h.imp fun _ _ _ => rdF_of
end
end TL
end
section
set_option autoImplicit false
set_option maxHeartbeats 1000000
/-! TL4: operators, comparisons, truth, items, slices: by trees -/
namespace TL
open PySem PySem.Spec PyProof.Rows L2

mutual
theorem Rp.dp {K : PySem.W.Frag} {F : Hp} : ∀ {v : V} {d : D}, Rp K F v d → d.canLay0 = true → Dp K F v d
  | _, _, .non, _ => .non
  | _, _, .bl b, _ => .bl b
  | _, _, .int i, _ => .int i
  | _, _, .str x, _ => .str x
  | _, _, .lst h r, c => .lst h.sq (Rps.dp r (by simpa [PyData.canLay0] using c))
  | _, _, .tup h r, c => .tup h (Rps.dp r (by simpa [PyData.canLay0] using c))
  | _, _, .dct _ _ _, c => by simp [PyData.canLay0] at c
theorem Rps.dp {K : PySem.W.Frag} {F : Hp} : ∀ {vs : List V} {ds : List D}, Rps K F vs ds → PyData.canLayAll0 ds = true → DpAll K F vs ds
  | _, _, .nil, _ => .nil
  | _, _, .cons h r, c => by
    rw [PyData.canLayAll0, Bool.and_eq_true] at c
    exact .cons (Rp.dp h c.1) (Rps.dp r c.2)
end

/-! ### shapes of readings by values -/
/-- two operands, a value -/
def gv2 (K : PySem.W.Frag) (wp : D → D → VQ → Prop) : R2 := fun x y H Q => ∃ F dx dy Qr, Same F H ∧ RdD K F H x dx ∧ RdD K F H y dy ∧ wp dx dy Qr ∧ ∀ r v F' H', Qr r → Gives K F H v r F' H' → Q v H'
/-- two operands, a tree without a new object -/
def gd2 (K : PySem.W.Frag) (wp : D → D → (D → Prop) → Prop) : R2 := fun x y H Q => ∃ F dx dy Qr, Same F H ∧ RdD K F H x dx ∧ RdD K F H y dy ∧ wp dx dy Qr ∧ ∀ d v, Qr d → Rp K F v d → Q v H
def gv1 (K : PySem.W.Frag) (wp : D → VQ → Prop) : V → Hp → VK → Prop := fun x H Q => ∃ F dx Qr, Same F H ∧ RdD K F H x dx ∧ wp dx Qr ∧ ∀ r v F' H', Qr r → Gives K F H v r F' H' → Q v H'

section
variable {X : Cx}
theorem rd_lst {pins : List (Addr × Obj)} {s : Shared} {σ : L2.St} {H : Hp} {a : Addr} {xs : List V} (I : Inv X pins σ H s) (h : LsL X.K H a xs) :
    xs.length ≤ sizeLine ∧ ∃ (its : List Value) (n : Nat), Vals xs its ∧ xs.length = its.length ∧ s.heap.get? a = some { cls := .type "list", data := .seq its.toArray n } := by
  rcases h with h | ⟨its, n, hk, h4, r⟩
  · obtain ⟨z, its, n, r, e⟩ := h.ok I.hok
    exact ⟨z, its, n, r, r.length, e⟩
  · exact ⟨by rw [r.length]; exact h4, its.toList, n, r, r.length, I.kIn a _ hk⟩
theorem op_fdivA : OpR X (binaryOp .FloorDiv) (rI (fun _ j => DivOk j) fun i j => .int (i.fdiv j)) :=
  opI fun i j _ _ _ _ _ hc q => floordiv_int hc.1 q (.inl (PyProof.noPylong_of_log2 hc.2))
def rCatL (K : PySem.W.Frag) : R2 := fun x y H Q => ∃ l b xs zs, x = .ref l ∧ y = .ref b ∧ LsL K H l xs ∧ LsL K H b zs ∧ xs.length + zs.length ≤ sizeLine ∧ ∀ p, H p = none → Q (.ref p) (upd H p (.lst (xs ++ zs)))
theorem op_catL : OpR X (binaryOp .Add) (rCatL X.K) := by
  rintro pins s σ H x y v u Q I rx ry ⟨l, b, xs, zs, rfl, rfl, h1, h2, hz, q⟩
  cases rx; cases ry
  obtain ⟨_, its, n, r, e1, e⟩ := rd_lst I h1
  obtain ⟨_, its2, n2, r2, e3, e2⟩ := rd_lst I h2
  refine PySem.P.add_list e e2 ?_ (by simp only [List.size_toArray]; omega)
  have ea : its.toArray ++ its2.toArray = (its ++ its2).toArray := by simp
  rw [ea]
  exact ⟨.ref _, _, I.lnew (t' := s.toks) (r.append r2) (by simp only [List.length_append]; omega), rfl, q _ I.fresh⟩
theorem rps_rep {K : PySem.W.Frag} {F : Hp} {vs : List V} {ds : List D} (r : Rps K F vs ds) : ∀ n : Nat, Rps K F (List.replicate n vs).flatten (List.replicate n ds).flatten
  | 0 => .nil
  | n + 1 => by
    rw [List.replicate_succ, List.replicate_succ, List.flatten_cons, List.flatten_cons]
    exact r.append (rps_rep r n)
def rRepL (K : PySem.W.Frag) : R2 := fun x y H Q => ∃ l k xs, x = .ref l ∧ y = .int k ∧ LsL K H l xs ∧ -(2 ^ 63) ≤ k ∧ k < 2 ^ 63 ∧ xs.length * k.toNat ≤ sizeLine ∧
  ∀ p, H p = none → Q (.ref p) (upd H p (.lst (List.replicate k.toNat xs).flatten))
theorem foldl_repA (its : List Value) (m : Nat) : List.foldl (fun x1 x2 => x1 ++ x2) #[] (List.replicate m its.toArray) = (List.replicate m its).flatten.toArray :=
  (L2.foldl_rep its m []).trans (by rw [List.nil_append])
theorem op_repL : OpR X (binaryOp .Mult) (rRepL X.K) := by
  rintro pins s σ H x y v u Q I rx ry ⟨l, k, xs, rfl, rfl, hR, h1, h2, hz, q⟩
  cases rx
  obtain ⟨t, rfl⟩ := ry
  obtain ⟨_, its, n, r, hl, e⟩ := rd_lst I hR
  have len1 : its.toArray.size * k.toNat ≤ sizeLine := by rw [List.size_toArray, ← hl]; exact hz
  have cap1 : ¬ its.toArray.size * k.toNat > (2 ^ 63 - 1) / 8 := fun z => absurd (Nat.lt_of_lt_of_le z len1) (by decide)
  have new1 : List.foldl (fun x1 x2 => x1 ++ x2) #[] (List.replicate (if its.toArray.isEmpty = true then 0 else k.toNat) its.toArray) = (List.replicate k.toNat its).flatten.toArray := by
    rw [foldl_repA]
    cases its with
    | nil => simp
    | cons a r' => rw [if_neg (by simp)]
  refine wpAny_binaryOp_repeat_ref (T := "list") (U := "int") (by decide) ⟨_, e, rfl⟩ (fun s' => typeIs_int s' k t) noFill_list_mul F.fills_int_mul F.slot_int_rmul repeat_list F.slot_int_index.lookup ?_
  refine call_meets F.slot_int_rmul (typeIs_int s k t) F.entry_int_rmul (F.args_int_rmul_2 _ _) (int___rmul___int_list k t l its.toArray n) ⟨e, rfl, ⟨_, e, rfl⟩, ?_⟩
  refine call_meets F.slot_list_mul ⟨_, e, rfl⟩ F.entry_list_mul (F.args_list_mul_2 _ _) (AutoListH.list___mul___list_int_3 l its.toArray n k t ?_ cap1 ?_) ⟨e, ?_⟩
  · rw [fitsIndex_both h1 h2]; decide
  · rw [notLongL len1]; decide
  · rw [new1]
    exact ⟨.ref _, _, I.lnew (t' := s.toks) (r.rep k.toNat) (by rw [PyProof.Rows.lm_len_rep_flat, Nat.mul_comm]; exact hz), rfl, q _ I.fresh⟩
theorem rep_nil (n : Nat) : (List.replicate n ([] : List D)).flatten = [] := by
  induction n with
  | zero => rfl
  | succ n ih => rw [List.replicate_succ, List.flatten_cons, ih]; rfl
theorem op_bin (o : Operator) : OpR X (binaryOp o) (gv2 X.K (wpBin o)) := by
  rintro pins s σ H x y v u Q I rx ry ⟨F, dx, dy, Qr, sm, hx, hy, hw, k⟩
  unfold wpBin at hw
  split at hw
  · cases hx.int; cases hy.int
    exact op_add pins s σ H _ _ v u Q I rx ry ⟨_, _, rfl, rfl, k _ _ _ _ hw (.old (.int _))⟩
  · cases hx.int; cases hy.int
    exact op_sub pins s σ H _ _ v u Q I rx ry ⟨_, _, rfl, rfl, k _ _ _ _ hw (.old (.int _))⟩
  · cases hx.int; cases hy.int
    exact op_mulW pins s σ H _ _ v u Q I rx ry ⟨_, _, rfl, rfl, hw.1, k _ _ _ _ hw.2 (.old (.int _))⟩
  · cases hx.int; cases hy.int
    exact op_fdivA pins s σ H _ _ v u Q I rx ry ⟨_, _, rfl, rfl, hw.1, k _ _ _ _ hw.2 (.old (.int _))⟩
  · cases hx.int; cases hy.int
    exact op_modN pins s σ H _ _ v u Q I rx ry ⟨_, _, rfl, rfl, hw.1, k _ _ _ _ hw.2 (.old (.int _))⟩
  · cases hx.int; cases hy.int
    exact op_pow pins s σ H _ _ v u Q I rx ry ⟨_, _, rfl, rfl, hw.1, k _ _ _ _ hw.2 (.old (.int _))⟩
  · cases hx.str; cases hy.str
    exact op_add_str pins s σ H _ _ v u Q I rx ry ⟨_, _, rfl, rfl, hw.1, k _ _ _ _ hw.2 (.old (.str _))⟩
  · obtain ⟨a, xs, rfl, ha, ra, pa⟩ := hx.tuple sm
    obtain ⟨b, ys, rfl, hb, rb, pb⟩ := hy.tuple sm
    refine op_catA pins s σ H _ _ v u Q I rx ry ⟨a, b, xs, ys, rfl, rfl, ha, hb, by rw [ra.length, rb.length]; exact hw.1, fun e => ?_, fun e1 e2 => ?_, fun e1 e2 p np => ?_⟩
    · subst e; cases ra
      exact k _ _ _ _ hw.2 (.old pb)
    · subst e2; cases rb
      have q := hw.2
      rw [List.append_nil] at q
      exact k _ _ _ _ q (.old pa)
    · exact k _ _ _ _ hw.2 (.tup np (ra.append rb))
  · obtain ⟨a, xs, rfl, ha, ra⟩ := hx.list sm
    obtain ⟨b, ys, rfl, hb, rb⟩ := hy.list sm
    exact op_catL pins s σ H _ _ v u Q I rx ry ⟨a, b, xs, ys, rfl, rfl, ha, hb, by rw [ra.length, rb.length]; exact hw.1, fun p np => k _ _ _ _ hw.2 (.lst np (ra.append rb))⟩
  · obtain ⟨a, xs, rfl, ha, ra⟩ := hx.list sm
    cases hy.int
    exact op_repL pins s σ H _ _ v u Q I rx ry ⟨a, _, xs, rfl, rfl, ha, hw.1, hw.2.1, by rw [ra.length]; exact hw.2.2.1, fun p np => k _ _ _ _ hw.2.2.2 (.lst np (rps_rep ra _))⟩
  · obtain ⟨a, xs, rfl, ha, ra, pa⟩ := hx.tuple sm
    cases hy.int
    refine op_repA pins s σ H _ _ v u Q I rx ry ⟨a, _, xs, rfl, rfl, ha, hw.1, hw.2.1, by rw [ra.length]; exact hw.2.2.1, fun e => ?_, fun _ p np => k _ _ _ _ hw.2.2.2 (.tup np (rps_rep ra _))⟩
    have q := hw.2.2.2
    rcases e with e | e
    · subst e
      rw [show (1 : Int).toNat = 1 from rfl, List.replicate_succ, List.replicate_zero, List.flatten_cons, List.flatten_nil, List.append_nil] at q
      exact k _ _ _ _ q (.old pa)
    · subst e; cases ra
      rw [rep_nil] at q
      exact k _ _ _ _ q (.old pa)
  · exact hw.elim
theorem op_aug (o : Operator) : OpR X (inplaceOp o) (gv2 X.K (wpAug o)) := by
  rintro pins s σ H x y v u Q I rx ry ⟨F, dx, dy, Qr, sm, hx, hy, hw, k⟩
  unfold wpAug at hw
  split at hw
  · cases hx.int; cases hy.int
    exact iop_add pins s σ H _ _ v u Q I rx ry ⟨_, _, rfl, rfl, k _ _ _ _ hw (.old (.int _))⟩
  · cases hx.int; cases hy.int
    exact iop_sub pins s σ H _ _ v u Q I rx ry ⟨_, _, rfl, rfl, k _ _ _ _ hw (.old (.int _))⟩
  · cases hx.int; cases hy.int
    exact opI (C := CMulW) (fun i j _ _ _ _ _ hc q => imul_int q hc.ok) pins s σ H _ _ v u Q I rx ry ⟨_, _, rfl, rfl, hw.1, k _ _ _ _ hw.2 (.old (.int _))⟩
  · exact hw.elim

/-! ### comparisons -/
theorem int___le___bool_bool_0 (a b : Bool) : PySem.Gives (Builtin.«int.__le__» ⟨[.bool a, .bool b], []⟩) (.val (Value.bool (decide ((if a = true then (1 : Int) else 0) ≤ (if b = true then (1 : Int) else 0))))) :=
  .of_wp fun M A E s Q h => by obtain ⟨hp, g, d, tk, os⟩ := s; wp_walk; exact ⟨_, rfl, h⟩
theorem op_leBl : OpR X (compareOp .LtE) (fun x y H Q => ∃ a b : Bool, x = .bl a ∧ y = .bl b ∧ Q (.bl (!a || b)) H) := by
  intro pins s σ H x y v u Q I rx ry h
  obtain ⟨a, b, rfl, rfl, q⟩ := h
  cases (show v = Value.bool a from rx)
  cases (show u = Value.bool b from ry)
  refine compareOp_gives (op := .LtE) (T := "bool") (a := .bool a) (b := .bool b) rfl rfl PySem.F.slot_bool_le PySem.F.entry_int_le (PySem.F.args_int_le_2 _ _) (int___le___bool_bool_0 a b) (fun x => nomatch x) ⟨.bl (!a || b), H, I, ?_, q⟩
  cases a <;> cases b <;> rfl
theorem rdD_dp {K : PySem.W.Frag} {F H : Hp} {x : V} {d : D} (h : RdD K F H x d) (sm : Same F H) (c : SeqAt.shaped d = true) : Dp K H x d :=
  (h.at sm).dp (SeqAt.canLay_of_shaped c)
theorem flat_rel {K : PySem.W.Frag} {F : Hp} {v : V} {d : D} (h : Rp K F v d) (f : flatD d = true) : flatV v = true := by
  cases h <;> first | rfl | exact Bool.noConfusion (show false = true from f)
theorem flat_rels {K : PySem.W.Frag} {F : Hp} : ∀ {vs : List V} {ds : List D}, Rps K F vs ds → ds.all flatD = true → vs.all flatV = true
  | _, _, .nil, _ => rfl
  | _, _, .cons h r, f => by
    rw [List.all_cons, Bool.and_eq_true] at f ⊢
    exact ⟨flat_rel h f.1, flat_rels r f.2⟩
theorem eqv_rel {K : PySem.W.Frag} {F : Hp} {v w : V} {d e : D} (h : Rp K F v d) (g : Rp K F w e) (f : flatD d = true) (f' : flatD e = true) : eqV v w = PyData.eqv d e := by
  cases h <;> first | exact Bool.noConfusion (show false = true from f) | skip
  all_goals (cases g <;> first | exact Bool.noConfusion (show false = true from f') | (simp only [eqV, PyData.eqv]))
theorem inD_rel {K : PySem.W.Frag} {F : Hp} {x : V} {d : D} (h : Rp K F x d) (f : flatD d = true) : ∀ {vs : List V} {ds : List D}, Rps K F vs ds → ds.all flatD = true → inV x vs = inD d ds
  | _, _, .nil, _ => rfl
  | _, _, .cons g r, f' => by
    rw [List.all_cons, Bool.and_eq_true] at f'
    have e := inD_rel h f r f'.2
    unfold inV inD at e ⊢
    rw [List.any_cons, List.any_cons, eqv_rel g h f'.1 f, e]
theorem flat_std {K : PySem.W.Frag} {F H : Hp} {x : V} {d : D} (h : RdD K F H x d) (f : flatD d = true) : Rp K F x d := by
  rcases h with h | ⟨a, ds, _, rfl, _⟩
  · exact h
  · exact nomatch f
theorem wpIn_ok (neg : Bool) {o : CmpOp} (ho : OpR X (compareOp o) (rIn X.K neg)) : OpR X (compareOp o) (gd2 X.K fun x y Q => match y with | .list ys => wpIn neg x ys Q | .tuple ys => wpIn neg x ys Q | _ => False) := by
  rintro pins s σ H x y v u Q I rx ry ⟨F, dx, dy, Qr, sm, hx, hy, hw, k⟩
  have core : ∀ (p : Addr) (vs : List V) (ds : List D), y = .ref p → (SqL X.K H p vs ∨ SqT X.K H p vs) → Rps X.K F vs ds → wpIn neg dx ds Qr → wpAny (model X.prog X.w) X.A (compareOp o v u) (EP X pins σ Q) X.xe s := by
    rintro p vs ds rfl hq r ⟨f1, f2, q⟩
    refine ho pins s σ H _ _ v u Q I rx ry ⟨p, vs, rfl, hq, flat_rel (flat_std hx f1) f1, flat_rels r f2, ?_⟩
    rw [inD_rel (flat_std hx f1) f1 r f2]
    exact k _ _ q (.bl _)
  cases dy with
  | list ys =>
    obtain ⟨a, vs, e, h, r⟩ := hy.list sm
    exact core a vs ys e (.inl h.sq) r hw
  | tuple ys =>
    obtain ⟨a, vs, e, h, r, _⟩ := hy.tuple sm
    exact core a vs ys e (.inr h) r hw
  | _ => exact hw.elim
theorem non_iff {K : PySem.W.Frag} {F H : Hp} {x : V} {d : D} (h : RdD K F H x d) : decide (x = .non) = isNone d := by
  rcases h with h | ⟨a, ds, rfl, rfl, _⟩
  · cases h <;> rfl
  · rfl
theorem ints_of : ∀ {ds : List D}, ds.all isInt = true → ds = (ds.map intOf).map PyData.int
  | [], _ => rfl
  | d :: ds, h => by
    rw [List.all_cons, Bool.and_eq_true] at h
    have e := ints_of h.2
    cases d <;> first | exact Bool.noConfusion (show false = true from h.1) | skip
    rw [List.map_cons, List.map_cons, ← e]; rfl
theorem op_cmp (hu : X.A.units + 64 < cLine) (o : CmpOp) : OpR X (compareOp o) (gd2 X.K (wpCmp o)) := by
  cases o with
  | Eq =>
    rintro pins s σ H x y v u Q I rx ry ⟨F, dx, dy, Qr, sm, hx, hy, ⟨ok, hw⟩, k⟩
    rcases ok with ⟨h1, h2⟩ | ⟨h1, h2⟩
    · unfold eqA at h1
      split at h1
      · cases hx.str; cases hy.str
        refine op_eq pins s σ H _ _ v u Q I rx ry ⟨rfl, ?_⟩
        rw [dec_str]
        exact k _ _ hw (.bl _)
      · rename_i xs
        obtain ⟨a, vs, rfl, ha, ra, _⟩ := hx.tuple sm
        obtain ⟨b, ws, rfl, hb, rb, _⟩ := hy.tuple sm
        cases rb
        cases rx; cases ry
        obtain ⟨its, rv, tl, _⟩ := I.tuple ha
        obtain ⟨its2, rv2, tl2, _⟩ := I.tuple hb
        cases rv2
        refine SeqAt.RcAt.tuples tl tl2 (e := fun _ => true) (by omega) (fun j _ j2 => absurd j2 (by simp)) X.prog X.w X.xe _ ⟨.bl _, H, I, rfl, ?_⟩
        have l1 : its.length = xs.length := by rw [← rv.length, ra.length]
        rw [show (((List.range (min its.toArray.size ([] : List Value).toArray.size)).all fun _ => true) && its.toArray.size == ([] : List Value).toArray.size) = PyData.eqv (.tuple xs) (.tuple []) from by rw [List.size_toArray, List.size_toArray, l1]; cases xs <;> simp [PyData.eqv, PyData.eqvAll]]
        exact k _ _ hw (.bl _)
      · cases h1
    · exact op_eqD hu pins s σ H _ _ v u Q I rx ry ⟨dx, dy, rdD_dp hx sm h1, rdD_dp hy sm h2, h1, h2, k _ _ hw (.bl _)⟩
  | NotEq =>
    rintro pins s σ H x y v u Q I rx ry ⟨F, dx, dy, Qr, sm, hx, hy, ⟨ok, hw⟩, k⟩
    rcases ok with ⟨h1, h2⟩ | ⟨h1, h2⟩
    · unfold eqA at h1
      split at h1
      · cases hx.str; cases hy.str
        refine op_ne pins s σ H _ _ v u Q I rx ry ⟨rfl, ?_⟩
        rw [dec_str]
        exact k _ _ hw (.bl _)
      · rename_i xs
        obtain ⟨a, vs, rfl, ha, ra, _⟩ := hx.tuple sm
        obtain ⟨b, ws, rfl, hb, rb, _⟩ := hy.tuple sm
        cases rb
        cases rx; cases ry
        obtain ⟨its, rv, tl, _⟩ := I.tuple ha
        obtain ⟨its2, rv2, tl2, _⟩ := I.tuple hb
        cases rv2
        refine SeqAt.RcNeAt.tuples tl tl2 (e := fun _ => true) (by omega) (fun j _ j2 => absurd j2 (by simp)) X.prog X.w X.xe _ ⟨.bl _, H, I, rfl, ?_⟩
        have l1 : its.length = xs.length := by rw [← rv.length, ra.length]
        rw [show (!(((List.range (min its.toArray.size ([] : List Value).toArray.size)).all fun _ => true) && its.toArray.size == ([] : List Value).toArray.size)) = !PyData.eqv (.tuple xs) (.tuple []) from by rw [List.size_toArray, List.size_toArray, l1]; cases xs <;> simp [PyData.eqv, PyData.eqvAll]]
        exact k _ _ hw (.bl _)
      · cases h1
    · exact op_neD hu pins s σ H _ _ v u Q I rx ry ⟨dx, dy, rdD_dp hx sm h1, rdD_dp hy sm h2, h1, h2, k _ _ hw (.bl _)⟩
  | Lt =>
    rintro pins s σ H x y v u Q I rx ry ⟨F, dx, dy, Qr, sm, hx, hy, hw, k⟩
    unfold wpCmp at hw; dsimp only at hw
    split at hw
    · cases hx.int; cases hy.int
      exact op_lt pins s σ H _ _ v u Q I rx ry ⟨_, _, rfl, rfl, k _ _ hw (.bl _)⟩
    · obtain ⟨a, xs, rfl, ha, ra, _⟩ := hx.tuple sm
      obtain ⟨b, ys, rfl, hb, rb, _⟩ := hy.tuple sm
      rw [ints_of hw.1] at ra
      rw [ints_of hw.2.1] at rb
      rw [ra.ints] at ha
      rw [rb.ints] at hb
      exact op_ltT (by omega) pins s σ H _ _ v u Q I rx ry ⟨a, b, _, _, rfl, rfl, ha, hb, k _ _ hw.2.2 (.bl _)⟩
    · exact hw.elim
  | LtE =>
    rintro pins s σ H x y v u Q I rx ry ⟨F, dx, dy, Qr, sm, hx, hy, hw, k⟩
    unfold wpCmp at hw; dsimp only at hw
    split at hw
    · cases hx.int; cases hy.int
      exact op_le pins s σ H _ _ v u Q I rx ry ⟨_, _, rfl, rfl, k _ _ hw (.bl _)⟩
    · cases hx.bl; cases hy.bl
      exact op_leBl pins s σ H _ _ v u Q I rx ry ⟨_, _, rfl, rfl, k _ _ hw (.bl _)⟩
    · exact hw.elim
  | Gt =>
    rintro pins s σ H x y v u Q I rx ry ⟨F, dx, dy, Qr, sm, hx, hy, hw, k⟩
    unfold wpCmp at hw; dsimp only at hw
    split at hw
    · cases hx.int; cases hy.int
      exact op_gt pins s σ H _ _ v u Q I rx ry ⟨_, _, rfl, rfl, k _ _ hw (.bl _)⟩
    · exact hw.elim
  | GtE =>
    rintro pins s σ H x y v u Q I rx ry ⟨F, dx, dy, Qr, sm, hx, hy, hw, k⟩
    unfold wpCmp at hw; dsimp only at hw
    split at hw
    · cases hx.int; cases hy.int
      exact op_ge pins s σ H _ _ v u Q I rx ry ⟨_, _, rfl, rfl, k _ _ hw (.bl _)⟩
    · exact hw.elim
  | Is =>
    rintro pins s σ H x y v u Q I rx ry ⟨F, dx, dy, Qr, sm, hx, hy, hw, k⟩
    unfold wpCmp at hw; dsimp only at hw
    split at hw
    · cases hx.bl; cases hy.bl
      exact op_isBl pins s σ H _ _ v u Q I rx ry ⟨_, _, rfl, rfl, k _ _ hw (.bl _)⟩
    · cases hy.non
      refine op_isN pins s σ H _ _ v u Q I rx ry ⟨rfl, ?_⟩
      rw [non_iff hx]
      exact k _ _ hw (.bl _)
    · exact hw.elim
  | IsNot =>
    rintro pins s σ H x y v u Q I rx ry ⟨F, dx, dy, Qr, sm, hx, hy, hw, k⟩
    unfold wpCmp at hw; dsimp only at hw
    split at hw
    · cases hx.bl; cases hy.bl
      exact op_notBl pins s σ H _ _ v u Q I rx ry ⟨_, _, rfl, rfl, k _ _ hw (.bl _)⟩
    · cases hy.non
      refine op_notN pins s σ H _ _ v u Q I rx ry ⟨rfl, ?_⟩
      rw [non_iff hx]
      exact k _ _ hw (.bl _)
    · exact hw.elim
  | In => exact wpIn_ok false op_in_seq
  | NotIn => exact wpIn_ok true op_notIn_seq

/-! ### truth, items, slices -/
theorem isEmpty_len {α β : Type} {xs : List α} {ys : List β} (h : xs.length = ys.length) : xs.isEmpty = ys.isEmpty := by
  cases xs <;> cases ys <;> first | rfl | exact nomatch h
theorem tru_rel {K : PySem.W.Frag} {F H : Hp} {x : V} {d : D} {Qb : Bool → Prop} (sm : Same F H) (hx : RdD K F H x d) (hw : wpTru d Qb) : ∃ k, TruV K x H k ∧ Qb k := by
  unfold wpTru at hw
  split at hw
  · cases hx.non; exact ⟨_, rfl, hw⟩
  · cases hx.bl; exact ⟨_, rfl, hw⟩
  · cases hx.int; exact ⟨_, rfl, hw⟩
  · cases hx.str; exact ⟨_, ⟨hw.1, rfl⟩, hw.2⟩
  · obtain ⟨a, vs, rfl, h, r⟩ := hx.list sm
    refine ⟨_, .inl ⟨vs, h.sq, rfl⟩, ?_⟩
    rw [isEmpty_len r.length]; exact hw
  · obtain ⟨a, vs, rfl, h, r, _⟩ := hx.tuple sm
    refine ⟨_, .inr (.inl ⟨vs, h, rfl⟩), ?_⟩
    rw [isEmpty_len r.length]; exact hw
  · rcases hx with h | ⟨a, ds, _, e, _⟩
    · cases h with
      | @dct a ks vs ds e1 e2 e3 =>
        refine ⟨_, .inr (.inr ⟨_, sm _ _ e1, rfl⟩), ?_⟩
        have e : (ks.zip vs).isEmpty = ((ks.map kD).zip ds).isEmpty := isEmpty_len (by rw [List.length_zip, List.length_zip, List.length_map, e3.length])
        rw [e]; exact hw
    · cases e
theorem atI_rel {K : PySem.W.Frag} {F : Hp} {vs : List V} {ds : List D} {i : Int} {d : D} (r : Rps K F vs ds) (h : atI ds i = some d) : ∃ v, atI vs i = some v ∧ Rp K F v d := by
  unfold atI at h ⊢
  rw [r.length]
  cases e : ixN ds.length i with
  | none => rw [e] at h; cases h
  | some j =>
    rw [e] at h
    exact r.get h
theorem ix_any : IxR X (gd2 X.K wpIdx) := by
  rintro value slice pins s σ H x y v u Q I rx ry ⟨F, dx, dy, Qr, sm, hx, hy, hw, k⟩ hs
  unfold wpIdx at hw
  split at hw
  · obtain ⟨a, vs, rfl, h, r⟩ := hx.list sm
    cases hy.int
    obtain ⟨d, e, q⟩ := hw
    obtain ⟨w, e', h'⟩ := atI_rel r e
    exact ix_list value slice pins s σ H _ _ v u Q I rx ry ⟨a, vs, _, w, rfl, rfl, h.sq, e', k _ _ q h'⟩ hs
  · obtain ⟨a, vs, rfl, h, r, _⟩ := hx.tuple sm
    cases hy.int
    obtain ⟨d, e, q⟩ := hw
    obtain ⟨w, e', h'⟩ := atI_rel r e
    exact ix_tup value slice pins s σ H _ _ v u Q I rx ry ⟨a, vs, _, w, rfl, rfl, h, e', k _ _ q h'⟩ hs
  · exact hw.elim
theorem cut_rel {K : PySem.W.Frag} {F : Hp} {vs : List V} {ds : List D} (r : Rps K F vs ds) (lo hi : Option Int) : Rps K F (cutV vs lo hi) (cutD ds lo hi) := by
  unfold cutV cutD
  rw [r.length]
  exact (r.drop _).take _
theorem sl_any : SlR X (fun x lo hi H Q => ∃ F dx Qr, Same F H ∧ RdD X.K F H x dx ∧ wpSlc dx lo hi Qr ∧ ∀ r v F' H', Qr r → Gives X.K F H v r F' H' → Q v H') := by
  rintro pins s σ H x v vl vu lo hi sl Q I rx hsl pl pu ⟨F, dx, Qr, sm, hx, hw, k⟩
  unfold wpSlc at hw
  split at hw
  · obtain ⟨a, vs, rfl, h, r⟩ := hx.list sm
    exact sl_list pins s σ H _ v vl vu lo hi sl Q I rx hsl pl pu ⟨a, vs, rfl, h.sq, fun p np => k _ _ _ _ hw (.lst np (cut_rel r lo hi))⟩
  · obtain ⟨a, vs, rfl, h, r, pa⟩ := hx.tuple sm
    refine sl_tupA pins s σ H _ v vl vu lo hi sl Q I rx hsl pl pu ⟨a, vs, rfl, h, fun e => ?_, fun e p np => k _ _ _ _ hw (.tup np (cut_rel r lo hi))⟩
    refine k _ _ _ _ hw (.old ?_)
    unfold cutD
    rw [← r.length, e.1, e.2, List.drop_zero, Nat.sub_zero, r.length, List.take_length]
    exact pa
  · exact hw.elim
end
end TL
end
section
set_option autoImplicit false
set_option maxHeartbeats 1000000
/-! TL5: built-in functions of one or two values: by trees -/
namespace TL
open PySem PySem.Spec PyProof.Rows L2

section
variable {K : PySem.W.Frag} {F : Hp}
theorem bools_of : ∀ {ds : List D}, ds.all isBool = true → ds = (ds.map boolOf).map PyData.bool
  | [], _ => rfl
  | d :: ds, h => by
    rw [List.all_cons, Bool.and_eq_true] at h
    have e := bools_of h.2
    cases d <;> first | exact Bool.noConfusion (show false = true from h.1) | skip
    rw [List.map_cons, List.map_cons, ← e]; rfl
theorem mem_ints {ns : List Int} {m : Int} : PyData.int m ∈ ns.map PyData.int ↔ m ∈ ns := by
  constructor
  · intro h
    obtain ⟨x, h1, h2⟩ := List.mem_map.mp h
    cases h2; exact h1
  · intro h; exact List.mem_map.mpr ⟨m, h, rfl⟩
theorem sortI_perm (ns : List Int) : (sortI ns).Perm ns := List.mergeSort_perm _ _
theorem sortI_le (ns : List Int) : (sortI ns).Pairwise (· ≤ ·) := by
  have h := List.pairwise_mergeSort (le := fun (a b : Int) => decide (a ≤ b)) (fun a b c h1 h2 => by
    have h1' := of_decide_eq_true h1
    have h2' := of_decide_eq_true h2
    exact decide_eq_true (Int.le_trans h1' h2')) (fun a b => by
    rcases Int.le_total a b with h | h
    · simp [h]
    · simp [h]) ns
  exact h.imp fun {a b} h => of_decide_eq_true h
theorem sortI_eq {ns ms : List Int} (p : ms.Perm ns) (s : ms.Pairwise (· ≤ ·)) : ms = sortI ns :=
  (p.trans (sortI_perm ns).symm).eq_of_pairwise (fun x y _ _ h1 h2 => Int.le_antisymm h1 h2) s (sortI_le ns)
end

/-! ### reads of the heap, for repr -/
theorem hasLstK_of : ∀ {ks : List D} {ds : List D}, ks.length = ds.length → hasLstK (ks.zip ds) = false → hasLsts ds = false
  | [], [], _, _ => rfl
  | k :: ks, d :: ds, e, h => by
    rw [List.zip_cons_cons, hasLstK, Bool.or_eq_false_iff, Bool.or_eq_false_iff] at h
    rw [hasLsts, h.1.2, hasLstK_of (Nat.succ.inj e) h.2]; rfl
theorem keys_read {P : Program} {w : World} {h : Heap} : ∀ {es : List DictEntry} {ks : List Key} {us : List Value}, ks.length = us.length → Pairs (mixKind P w) es (ks.zip us) → ReadsAll h (es.map (·.key)) (ks.map kD) []
  | _, [], [], _, .nil => .nil
  | _, k :: ks, u :: us, e, .cons h1 h2 r => by
    have h1' : keyIs k _ = true := h1
    rcases keyIs_shape h1' with ⟨i, t, rfl, e1⟩ | ⟨x, t, rfl, e1⟩
    · rw [List.map_cons, List.map_cons, e1]
      exact .cons (as := []) (.int i t) (keys_read (Nat.succ.inj e) r)
    · rw [List.map_cons, List.map_cons, e1]
      exact .cons (as := []) (.str x t) (keys_read (Nat.succ.inj e) r)
theorem vals_read {P : Program} {w : World} : ∀ {es : List DictEntry} {ks : List Key} {us : List Value}, ks.length = us.length → Pairs (mixKind P w) es (ks.zip us) → es.map (·.val) = us
  | _, [], [], _, .nil => rfl
  | _, k :: ks, u :: us, e, .cons h1 h2 r => by
    rw [List.map_cons, h2, vals_read (Nat.succ.inj e) r]
theorem kv_zip : ∀ {ks : List Key} {vs : List V} {kvs : List (Key × Value)}, ks.length = vs.length → KV (ks.zip vs) kvs → ∃ us, kvs = ks.zip us ∧ ks.length = us.length ∧ Vals vs us
  | [], [], _, _, .nil => ⟨[], rfl, rfl, .nil⟩
  | k :: ks, v :: vs, _, e, .cons (b := q) h r => by
    obtain ⟨us, e1, e2, e3⟩ := kv_zip (Nat.succ.inj e) r
    refine ⟨q.2 :: us, ?_, by simp [e2], .cons h.2 e3⟩
    rw [e1]
    show q :: _ = (k, q.2) :: _
    rw [show q = (k, q.2) from Prod.ext h.1.symm rfl]
    rfl
section
variable {X : Cx} {pins : List (Addr × Obj)} {σ : L2.St} {H : Hp} {s : Shared}
/-- the table of modules is a dict -/
def SysD (h : Heap) : Prop := ∃ m, h.Ns sysModules m
theorem SysD.ne (sy : SysD X.base) (I : Inv X pins σ H s) {a : Addr} {o : Obj} {us : Array Value} {n : Nat} (e : s.heap.get? a = some o) (ed : o.data = .seq us n) : (a == sysModules) = false := by
  obtain ⟨m, o', es, ep, ho, hd, _⟩ := sy
  refine beq_eq_false_iff_ne.mpr fun z => ?_
  subst z
  rw [I.bk _ _ ho] at e
  cases e
  rw [hd] at ed
  cases ed
mutual
theorem Rp.reads (I : Inv X pins σ H s) (sy : SysD X.base) : ∀ {v : V} {d : D} {u : Value}, Rp X.K H v d → RelV v u → ∃ as, Reads s.heap u d as ∧ ∀ b ∈ as, (b == sysModules) = false
  | _, _, _, .non, r => by cases r; exact ⟨_, .none, fun b h => nomatch h⟩
  | _, _, _, .bl b, r => by cases r; exact ⟨_, .bool b, fun b h => nomatch h⟩
  | _, _, _, .int i, r => by obtain ⟨t, rfl⟩ := r; exact ⟨_, .int i t, fun b h => nomatch h⟩
  | _, _, _, .str x, r => by obtain ⟨t, rfl⟩ := r; exact ⟨_, .str x t, fun b h => nomatch h⟩
  | _, _, _, .lst h q, r => by
    cases r
    obtain ⟨_, its, n, rv, _, e⟩ := rd_lst I h
    obtain ⟨as, hr, z⟩ := Rps.reads I sy q rv
    refine ⟨_, .list e rfl rfl hr, fun b hb => ?_⟩
    rcases List.mem_cons.mp hb with e2 | hb
    · rw [e2]; exact sy.ne I e rfl
    · exact z b hb
  | _, _, _, .tup h q, r => by
    cases r
    obtain ⟨its, rv, ⟨o, ho, hc, n, hd⟩, _⟩ := I.tuple h
    obtain ⟨as, hr, z⟩ := Rps.reads I sy q rv
    exact ⟨_, .tuple ho hc hd hr, z⟩
  | _, _, _, .dct (a := a) (ks := ks) (vs := vs) (ds := ds) h l q, r => by
    cases r
    obtain ⟨_, hsys, kvs, hkv, o, es, ep, ho, hx, hd, _, hp, _⟩ := I.hok _ _ h
    obtain ⟨us, e1, e2, rv⟩ := kv_zip l hkv
    subst e1
    obtain ⟨as, hr, z⟩ := Rps.reads I sy q rv
    have hk : (((ks.map kD).zip ds).map (·.1)) = ks.map kD := by
      rw [← List.unzip_fst, List.unzip_zip_left (by rw [List.length_map, l, q.length]; exact Nat.le_refl _)]
    have hv : (((ks.map kD).zip ds).map (·.2)) = ds := by
      rw [← List.unzip_snd, List.unzip_zip_right (by rw [List.length_map, l, q.length]; exact Nat.le_refl _)]
    refine ⟨_, .dict (as := []) (bs := as) ho hx.1 hd (by rw [hk]; exact keys_read e2 hp) (by rw [hv, vals_read e2 hp]; exact hr), fun b hb => ?_⟩
    rcases List.mem_cons.mp hb with e | hb
    · rw [e]; exact hsys
    · exact z b (by simpa using hb)
theorem Rps.reads (I : Inv X pins σ H s) (sy : SysD X.base) : ∀ {vs : List V} {ds : List D} {us : List Value}, Rps X.K H vs ds → Vals vs us → ∃ as, ReadsAll s.heap us ds as ∧ ∀ b ∈ as, (b == sysModules) = false
  | _, _, _, .nil, .nil => ⟨_, .nil, fun b h => nomatch h⟩
  | _, _, _, .cons h q, .cons r rs => by
    obtain ⟨as, h1, z1⟩ := Rp.reads I sy h r
    obtain ⟨bs, h2, z2⟩ := Rps.reads I sy q rs
    refine ⟨_, .cons h1 h2, fun b hb => ?_⟩
    rcases List.mem_append.mp hb with hb | hb
    · exact z1 b hb
    · exact z2 b hb
end
end
section
variable {X : Cx}
/-- a call of one value -/
def c1 (K : PySem.W.Frag) (wp : D → VQ → Prop) : List V → Hp → VK → Prop := fun xs H Q => ∃ x, xs = [x] ∧ gv1 K wp x H Q
def c2 (K : PySem.W.Frag) (wp : D → D → VQ → Prop) : List V → Hp → VK → Prop := fun xs H Q => ∃ x y, xs = [x, y] ∧ gv2 K wp x y H Q
theorem b_len : CallR X (.builtin "len") (c1 X.K (wpB1 .len)) := by
  rintro pins s σ H _ us Q I rx ⟨x, rfl, F, dx, Qr, sm, hx, hw, k⟩
  unfold wpB1 at hw
  split at hw <;> first | contradiction | skip
  all_goals (try (exact hw.elim))
  · obtain ⟨a, vs, rfl, h, r⟩ := hx.list sm
    refine call_len_seq pins s σ H _ us Q I rx ⟨a, vs, rfl, .inl h.sq, ?_⟩
    rw [r.length]; exact k _ _ _ _ hw (.old (.int _))
  · obtain ⟨a, vs, rfl, h, r, _⟩ := hx.tuple sm
    refine call_len_seq pins s σ H _ us Q I rx ⟨a, vs, rfl, .inr h, ?_⟩
    rw [r.length]; exact k _ _ _ _ hw (.old (.int _))
  · cases hx.str
    exact call_len_str pins s σ H _ us Q I rx ⟨_, rfl, hw.1, k _ _ _ _ hw.2 (.old (.int _))⟩
theorem b_abs : CallR X (.builtin "abs") (c1 X.K (wpB1 .abs)) := by
  rintro pins s σ H _ us Q I rx ⟨x, rfl, F, dx, Qr, sm, hx, hw, k⟩
  cases dx <;> first | exact (show False from hw).elim | skip
  cases hx.int
  refine call_abs pins s σ H _ us Q I rx ⟨_, rfl, ?_⟩
  rename_i i
  have e : (if i < 0 then -i else i) = (i.natAbs : Int) := by split <;> omega
  rw [e]; exact k _ _ _ _ hw (.old (.int _))
theorem list_ints {F H : Hp} {x : V} {ds : List D} (sm : Same F H) (hx : RdD X.K F H x (.list ds)) (h : ds.all isInt = true) : ∃ a, x = .ref a ∧ SqL X.K H a ((ds.map intOf).map V.int) := by
  obtain ⟨a, vs, rfl, h1, r⟩ := hx.list sm
  rw [ints_of h] at r
  rw [r.ints] at h1
  exact ⟨a, rfl, h1.sq⟩
theorem list_bools {F H : Hp} {x : V} {ds : List D} (sm : Same F H) (hx : RdD X.K F H x (.list ds)) (h : ds.all isBool = true) : ∃ a, x = .ref a ∧ SqL X.K H a ((ds.map boolOf).map V.bl) := by
  obtain ⟨a, vs, rfl, h1, r⟩ := hx.list sm
  rw [bools_of h] at r
  rw [r.bls] at h1
  exact ⟨a, rfl, h1.sq⟩
theorem b_min (hc : X.calm = true) : CallR X (.builtin "min") (c1 X.K (wpB1 .min)) := by
  rintro pins s σ H _ us Q I rx ⟨x, rfl, F, dx, Qr, sm, hx, hw, k⟩
  cases dx <;> first | exact (show False from hw).elim | skip
  obtain ⟨h1, h2, q⟩ := hw
  obtain ⟨a, rfl, hs⟩ := list_ints sm hx h1
  refine cr_min hc pins s σ H _ us Q I rx ⟨a, _, rfl, hs, by rw [List.length_map]; exact List.length_pos_iff.mpr h2, fun m hm hl => k _ _ _ _ (q m ?_ fun y hy => hl y ?_) (.old (.int _))⟩
  · rw [ints_of h1]; exact mem_ints.mpr hm
  · rw [ints_of h1] at hy; exact mem_ints.mp hy
theorem b_max (hc : X.calm = true) : CallR X (.builtin "max") (c1 X.K (wpB1 .max)) := by
  rintro pins s σ H _ us Q I rx ⟨x, rfl, F, dx, Qr, sm, hx, hw, k⟩
  cases dx <;> first | exact (show False from hw).elim | skip
  obtain ⟨h1, h2, q⟩ := hw
  obtain ⟨a, rfl, hs⟩ := list_ints sm hx h1
  refine cr_max hc pins s σ H _ us Q I rx ⟨a, _, rfl, hs, by rw [List.length_map]; exact List.length_pos_iff.mpr h2, fun m hm hl => k _ _ _ _ (q m ?_ fun y hy => hl y ?_) (.old (.int _))⟩
  · rw [ints_of h1]; exact mem_ints.mpr hm
  · rw [ints_of h1] at hy; exact mem_ints.mp hy
theorem b_sum (hc : X.calm = true) : CallR X (.builtin "sum") (c1 X.K (wpB1 .sum)) := by
  rintro pins s σ H _ us Q I rx ⟨x, rfl, F, dx, Qr, sm, hx, hw, k⟩
  cases dx <;> first | exact (show False from hw).elim | skip
  obtain ⟨a, rfl, hs⟩ := list_ints sm hx hw.1
  exact cr_sum hc pins s σ H _ us Q I rx ⟨a, _, rfl, hs, k _ _ _ _ hw.2 (.old (.int _))⟩
theorem b_all (hc : X.calm = true) : CallR X (.builtin "all") (c1 X.K (wpB1 .all)) := by
  rintro pins s σ H _ us Q I rx ⟨x, rfl, F, dx, Qr, sm, hx, hw, k⟩
  cases dx <;> first | exact (show False from hw).elim | skip
  obtain ⟨a, rfl, hs⟩ := list_bools sm hx hw.1
  exact cr_all hc pins s σ H _ us Q I rx ⟨a, _, rfl, hs, k _ _ _ _ hw.2 (.old (.bl _))⟩
theorem b_any (hc : X.calm = true) : CallR X (.builtin "any") (c1 X.K (wpB1 .any)) := by
  rintro pins s σ H _ us Q I rx ⟨x, rfl, F, dx, Qr, sm, hx, hw, k⟩
  cases dx <;> first | exact (show False from hw).elim | skip
  obtain ⟨a, rfl, hs⟩ := list_bools sm hx hw.1
  exact cr_any hc pins s σ H _ us Q I rx ⟨a, _, rfl, hs, k _ _ _ _ hw.2 (.old (.bl _))⟩
theorem b_sorted : CallR X (.builtin "sorted") (c1 X.K (wpB1 .sorted)) := by
  rintro pins s σ H _ us Q I rx ⟨x, rfl, F, dx, Qr, sm, hx, hw, k⟩
  cases dx <;> first | exact (show False from hw).elim | skip
  obtain ⟨a, rfl, hs⟩ := list_ints sm hx hw.1
  refine cr_sortedI pins s σ H _ us Q I rx ⟨a, _, rfl, hs, fun ns' p hp hs' np => ?_⟩
  rw [sortI_eq hp hs']
  exact k _ _ _ _ hw.2 (.lst np (rps_ints _))
theorem b_tuple : CallR X (.type "tuple") (c1 X.K (wpB1 .tuple)) := by
  rintro pins s σ H _ us Q I rx ⟨x, rfl, F, dx, Qr, sm, hx, hw, k⟩
  cases dx <;> first | exact (show False from hw).elim | skip
  · obtain ⟨a, vs, rfl, h, r⟩ := hx.list sm
    exact call_tuple_of pins s σ H _ us Q I rx ⟨a, vs, rfl, .inl ⟨h.sq, fun l nl => k _ _ _ _ hw (.tup nl r)⟩⟩
  · obtain ⟨a, vs, rfl, h, r, pa⟩ := hx.tuple sm
    exact call_tuple_of pins s σ H _ us Q I rx ⟨a, vs, rfl, .inr ⟨h, k _ _ _ _ hw (.old pa)⟩⟩
theorem b_list : CallR X (.type "list") (c1 X.K (wpB1 .list)) := by
  rintro pins s σ H _ us Q I rx ⟨x, rfl, F, dx, Qr, sm, hx, hw, k⟩
  cases dx <;> first | exact (show False from hw).elim | skip
  · obtain ⟨a, vs, rfl, h, r⟩ := hx.list sm
    exact call_list_of pins s σ H _ us Q I rx ⟨a, vs, rfl, .inl h.sq, fun l nl => k _ _ _ _ hw (.lst nl r)⟩
  · obtain ⟨a, vs, rfl, h, r, pa⟩ := hx.tuple sm
    exact call_list_of pins s σ H _ us Q I rx ⟨a, vs, rfl, .inr h, fun l nl => k _ _ _ _ hw (.lst nl r)⟩
theorem b_int : CallR X (.type "int") (c1 X.K (wpB1 .int)) := by
  rintro pins s σ H _ us Q I rx ⟨x, rfl, F, dx, Qr, sm, hx, hw, k⟩
  cases dx <;> first | exact (show False from hw).elim | skip
  · cases hx.bl
    exact call_int1 pins s σ H _ us Q I rx (.inr ⟨_, rfl, k _ _ _ _ hw (.old (.int _))⟩)
  · cases hx.int
    exact call_int1 pins s σ H _ us Q I rx (.inl ⟨_, rfl, k _ _ _ _ hw (.old (.int _))⟩)
theorem b_str : CallR X (.type "str") (c1 X.K (wpB1 .str)) := by
  rintro pins s σ H _ us Q I rx ⟨x, rfl, F, dx, Qr, sm, hx, hw, k⟩
  cases dx <;> first | exact (show False from hw).elim | skip
  cases hx.int
  exact call_str_int pins s σ H _ us Q I rx ⟨_, rfl, hw.1, k _ _ _ _ hw.2 (.old (.str _))⟩
theorem b_repr (sy : SysD X.base) (hg : X.A.guards = some []) (hu : X.A.units + 68 < cLine) : CallR X (.builtin "repr") (c1 X.K (wpB1 .repr)) := by
  rintro pins s σ H _ us Q I rx ⟨x, rfl, F, dx, Qr, sm, hx, hw, k⟩
  obtain ⟨h2, h3, h4, q⟩ : dx.showable = true ∧ dx.depth ≤ 64 ∧ dx.shown.length ≤ sizeLine ∧ Qr (.fz (.str dx.shown)) := by
    cases dx <;> exact hw
  obtain ⟨u, rfl, ru⟩ := vals1 rx
  have kq : Q (.str dx.shown) H := k _ _ _ _ q (.old (.str _))
  have hr := hx.at sm
  obtain ⟨as, rd, hs⟩ := hr.reads I sy ru
  have big : ∀ a, u = .ref a → wpAny (model X.prog X.w) X.A (call (.builtin "repr") [u]) (EP X pins σ Q) X.xe s := by
    rintro a rfl
    refine repr_of_reads' rd h2 (fun z m => ?_) hg (by omega) (fun _ _ h => h) (fun h' u' tk hk => ⟨.str _, H, I.kept (t' := tk) hk, ⟨_, rfl⟩, kq⟩) h4
    have z2 := hs _ m
    simp at z2
  cases hr with
  | non => cases ru; exact PySem.P.repr_of_none ⟨.str _, H, I.tok _, ⟨_, rfl⟩, by simpa [PyData.shown] using kq⟩
  | bl b => cases ru; exact PySem.P.repr_of_bool ⟨.str _, H, I.tok _, ⟨_, rfl⟩, by simpa [PyData.shown] using kq⟩
  | int i =>
    obtain ⟨t, rfl⟩ := ru
    exact PySem.P.repr_of_int (by simpa [PyData.showable] using h2) ⟨.str _, H, I.tok _, ⟨_, rfl⟩, by simpa [PyData.shown] using kq⟩
  | str z =>
    obtain ⟨t, rfl⟩ := ru
    exact PySem.P.repr_of_str ⟨.str _, H, I.tok _, ⟨_, rfl⟩, by simpa [PyData.shown] using kq⟩ (by simpa [PyData.shown] using h4)
  | lst _ _ => cases ru; exact big _ rfl
  | tup _ _ => cases ru; exact big _ rfl
  | dct _ _ _ => cases ru; exact big _ rfl
theorem b2_min (hc : X.calm = true) : CallR X (.builtin "min") (c2 X.K (wpB2 .min)) := by
  rintro pins s σ H _ us Q I rx ⟨x, y, rfl, F, dx, dy, Qr, sm, hx, hy, hw, k⟩
  unfold wpB2 at hw
  split at hw <;> first | contradiction | skip
  · cases hx.int; cases hy.int
    exact call_min2 hc pins s σ H _ us Q I rx ⟨_, _, rfl, k _ _ _ _ hw (.old (.int _))⟩
theorem b2_max (hc : X.calm = true) : CallR X (.builtin "max") (c2 X.K (wpB2 .max)) := by
  rintro pins s σ H _ us Q I rx ⟨x, y, rfl, F, dx, dy, Qr, sm, hx, hy, hw, k⟩
  unfold wpB2 at hw
  split at hw <;> first | contradiction | skip
  · cases hx.int; cases hy.int
    exact call_max2 hc pins s σ H _ us Q I rx ⟨_, _, rfl, k _ _ _ _ hw (.old (.int _))⟩

/-! ### isinstance, built-in types -/
theorem tyX {F H : Hp} {x : V} {d : D} (sm : Same F H) (hx : RdD X.K F H x d) : TyX X.K H x (.type (tyD d)) := by
  have h := hx.at sm
  cases h with
  | non => exact .base .non
  | bl b => exact .base (.bl b)
  | int i => exact .base (.int i)
  | str z => exact .base (.str z)
  | lst h r =>
    rcases h with (h | ⟨o, h⟩) | ⟨its, n, h, _⟩
    · exact .base (.lst h)
    · exact .base (.frz h)
    · exact .kList h rfl
  | tup h r =>
    rcases h with (h | ⟨o, h⟩) | ⟨o, its, n, h, c, _⟩
    · exact .base (.tup h)
    · exact .fTuple h
    · exact .kTuple h c
  | dct h _ _ => exact .base (.dK h)
def knownTy : List String := ["int", "bool", "tuple", "list", "str", "dict"]
theorem kit_all (d : D) (t : String) (h : t ∈ knownTy) : kitB (tyD d) t = some (isiD d t) := by
  simp only [knownTy, List.mem_cons, List.not_mem_nil, or_false] at h
  rcases h with rfl | rfl | rfl | rfl | rfl | rfl <;> (cases d <;> (simp only [tyD, isiD]; decide +kernel))
theorem b_isi : CallR X (.builtin "isinstance") (fun xs H Q => ∃ (x : V) (t : String), xs = [x, .ty t] ∧ t ∈ knownTy ∧ gv1 X.K (fun d Q => Q (.fz (.bool (isiD d t)))) x H Q) := by
  rintro pins s σ H _ us Q I rx ⟨x, t, rfl, ht, F, dx, Qr, sm, hx, hw, k⟩
  exact call_isi pins s σ H _ us Q I rx ⟨x, _, _, _, _, rfl, .ty t, tyX sm hx, kit_ty (kit_all dx t ht), k _ _ _ _ hw (.old (.bl _))⟩
end
end TL
end
section
set_option autoImplicit false
set_option maxHeartbeats 1000000
/-! TL6: the state behind a store; argument lists; expressions' rules -/
namespace TL
open PySem PySem.Spec PyProof.Rows L2

section
variable {K : PySem.W.Frag} {F F' H H' H0 : Hp} {σ : St} {ρ ρ' : Slots} {v : V} {r : RV} {i : Nat}

theorem get_set_self {α : Type} {l : List α} {i : Nat} {x y : α} (h : l[i]? = some x) : (l.set i y)[i]? = some y := by
  have hi := (List.getElem?_eq_some_iff.mp h).1
  simp [List.getElem?_set, hi]
theorem get_set_ne {α : Type} {l : List α} {i j : Nat} {y : α} (h : i ≠ j) : (l.set i y)[j]? = l[j]? := by
  simp [List.getElem?_set, h]
theorem slot_at (s : SR K F H σ ρ) {x : Sl} (h : ρ[i]? = some x) : ∃ o, σ[i]? = some o ∧ SltR K F H x o := by
  have hi := (List.getElem?_eq_some_iff.mp h).1
  rw [s.len] at hi
  exact ⟨_, List.getElem?_eq_getElem hi, s.slot i _ _ h (List.getElem?_eq_getElem hi)⟩
/-- what is held where one slot is another -/
theorem held_set {x : Sl} {a : Addr} (hx : x.held = false) (h : Held (ρ.set i x) σ a) : Held ρ σ a := by
  obtain ⟨j, h⟩ := h
  by_cases e : i = j
  · subst e
    rcases h with ⟨ds, h1, h2⟩ | ⟨ds, h1, h2⟩
    · rw [List.getElem?_set_self'] at h1
      cases e : ρ[i]? with
      | none => rw [e] at h1; cases h1
      | some z =>
        rw [e] at h1
        have h1' : x = .own ds := Option.some.inj h1
        subst h1'; exact nomatch hx
    · rw [List.getElem?_set_self'] at h1
      cases e : ρ[i]? with
      | none => rw [e] at h1; cases h1
      | some z =>
        rw [e] at h1
        have h1' : x = .bor ds := Option.some.inj h1
        subst h1'; exact nomatch hx
  · rcases h with ⟨ds, h1, h2⟩ | ⟨ds, h1, h2⟩
    · rw [get_set_ne e] at h1; exact ⟨j, .inl ⟨ds, h1, h2⟩⟩
    · rw [get_set_ne e] at h1; exact ⟨j, .inr ⟨ds, h1, h2⟩⟩
theorem set_at {x y : Sl} {j : Nat} (hx : x.held = false) (h : (ρ.set i x)[j]? = some y) (hy : y.held = true) : i ≠ j ∧ ρ[j]? = some y := by
  by_cases e : i = j
  · subst e
    rw [List.getElem?_set_self'] at h
    cases e : ρ[i]? with
    | none => rw [e] at h; cases h
    | some z =>
      rw [e] at h
      have h' : x = y := Option.some.inj h
      subst h'; rw [hx] at hy; cases hy
  · rw [get_set_ne e] at h; exact ⟨e, h⟩
/-- a list of a slot is made to stand -/
theorem SR.frzSlot (s : SR K F H σ ρ) {ds : List D} (h : ρ[i]? = some (.own ds)) :
    ∃ F' v, σ[i]? = some (some v) ∧ Stp ρ F σ H (ρ.set i (.fz (.list ds))) F' σ H ∧ SR K F' H σ (ρ.set i (.fz (.list ds))) ∧ Rp K F' v (.list ds) := by
  obtain ⟨o, ho, a, rfl, vs, h1, h2⟩ := slot_at s h
  have own : OwnL ρ σ i a := ⟨ds, h, ho⟩
  have nF : F a = none := s.out a ⟨i, .inl own⟩
  have e1 : Same F (upd F a (.lst vs)) := same_upd' nF
  have rp : Rp K (upd F a (.lst vs)) (.ref a) (.list ds) := .lst (.inl (.inl upd_same)) (h2.mono e1)
  have ne : ∀ b, Held (ρ.set i (.fz (.list ds))) σ b → b ≠ a := fun b hb e => by
    subst e
    obtain ⟨j, hj⟩ := hb
    rcases hj with ⟨es, z1, z2⟩ | ⟨es, z1, z2⟩
    · obtain ⟨n, z⟩ := set_at rfl z1 rfl
      exact n (s.uniq i j b (.inl own) (.inl ⟨es, z, z2⟩))
    · obtain ⟨n, z⟩ := set_at rfl z1 rfl
      exact n (s.uniq i j b (.inl own) (.inr ⟨es, z, z2⟩))
  refine ⟨upd F a (.lst vs), .ref a, ho, ⟨e1, fun _ _ h _ => h, fun b hb => ?_, fun b hb => ?_, fun j b => ?_, fun _ h => h⟩, ?_, rp⟩
  · by_cases e : b = a
    · subst e; exact .inr (.inr ⟨i, own⟩)
    · rw [upd_ne e] at hb; exact .inl hb
  · obtain ⟨j, es, z1, z2⟩ := hb
    exact .inr ⟨j, es, (set_at rfl z1 rfl).2, z2⟩
  · constructor
    · rintro ⟨es, z1, z2⟩
      exact ⟨es, (set_at rfl z1 rfl).2, z2⟩
    · rintro ⟨es, z1, z2⟩
      by_cases e : i = j
      · subst e; rw [h] at z1; cases z1
      · exact ⟨es, by rw [get_set_ne e]; exact z1, z2⟩
  · refine ⟨by rw [List.length_set]; exact s.len, fun b o hb => ?_, fun j x o h1 h2 => ?_, fun j k b z1 z2 => ?_, fun b hb => ?_⟩
    · by_cases e : b = a
      · subst e; rw [upd_same] at hb; cases hb; assumption
      · rw [upd_ne e] at hb; exact s.sub _ _ hb
    · by_cases e : i = j
      · subst e
        rw [get_set_self h] at h1; cases h1
        rw [ho] at h2; cases h2
        exact ⟨_, rfl, rp⟩
      · rw [get_set_ne e] at h1
        have q := s.slot j x o h1 h2
        cases x with
        | un => exact trivial
        | fz d => obtain ⟨w, e, z⟩ := q; exact ⟨w, e, z.mono e1⟩
        | own es => obtain ⟨b, e, z⟩ := q; exact ⟨b, e, z.mono e1 rfl⟩
        | bor es => obtain ⟨b, e, z⟩ := q; exact ⟨b, e, z.mono e1 rfl⟩
    · have back : ∀ k, (OwnL (ρ.set i (.fz (.list ds))) σ k b ∨ BorL (ρ.set i (.fz (.list ds))) σ k b) → (OwnL ρ σ k b ∨ BorL ρ σ k b) := by
        rintro k (⟨es, z1, z2⟩ | ⟨es, z1, z2⟩)
        · exact .inl ⟨es, (set_at rfl z1 rfl).2, z2⟩
        · exact .inr ⟨es, (set_at rfl z1 rfl).2, z2⟩
      exact s.uniq j k b (back j z1) (back k z2)
    · rw [upd_ne (ne b hb)]
      exact s.out b (held_set rfl hb)
theorem setH_len (ρ : Slots) (i : Nat) (ds : List D) : (setH ρ i ds).length = ρ.length := by
  unfold setH; split <;> simp
/-- a held list is written -/
theorem SR.write (s : SR K F H σ ρ) {k : List D → Prop} (h : heldS ρ i k) : ∃ a vs ds, σ[i]? = some (some (.ref a)) ∧ H a = some (.lst vs) ∧ Rps K F vs ds ∧ k ds ∧ Held ρ σ a ∧
    ∀ vs' ds', Rps K F vs' ds' → Stp ρ F σ H (setH ρ i ds') F σ (upd H a (.lst vs')) ∧ SR K F (upd H a (.lst vs')) σ (setH ρ i ds') := by
  have core : ∀ (x : Sl) (mk : List D → Sl) (ds : List D), ρ[i]? = some x → x = mk ds → (mk = .own ∨ mk = .bor) → (∀ ds', setH ρ i ds' = ρ.set i (mk ds')) → k ds → ∃ a vs ds, σ[i]? = some (some (.ref a)) ∧ H a = some (.lst vs) ∧ Rps K F vs ds ∧ k ds ∧ Held ρ σ a ∧
    ∀ vs' ds', Rps K F vs' ds' → Stp ρ F σ H (setH ρ i ds') F σ (upd H a (.lst vs')) ∧ SR K F (upd H a (.lst vs')) σ (setH ρ i ds') := by
    rintro x mk ds hx rfl hm hset hk
    obtain ⟨o, ho, q⟩ := slot_at s hx
    obtain ⟨a, rfl, vs, h1, h2⟩ : ∃ a, o = some (.ref a) ∧ LstR K F H a ds := by
      rcases hm with rfl | rfl <;> exact q
    have hh : Held ρ σ a := by
      rcases hm with rfl | rfl
      · exact ⟨i, .inl ⟨ds, hx, ho⟩⟩
      · exact ⟨i, .inr ⟨ds, hx, ho⟩⟩
    refine ⟨a, vs, ds, ho, h1, h2, hk, hh, fun vs' ds' r => ?_⟩
    rw [hset]
    have ow : ∀ j b, OwnL (ρ.set i (mk ds')) σ j b ↔ OwnL ρ σ j b := fun j b => by
      by_cases e : i = j
      · subst e
        rcases hm with rfl | rfl
        · exact ⟨fun ⟨es, z1, z2⟩ => ⟨ds, hx, z2⟩, fun ⟨es, z1, z2⟩ => ⟨ds', get_set_self hx, z2⟩⟩
        · constructor
          · rintro ⟨es, z1, z2⟩; rw [get_set_self hx] at z1; cases z1
          · rintro ⟨es, z1, z2⟩; rw [hx] at z1; cases z1
      · unfold OwnL; rw [get_set_ne e]
    have bo : ∀ j b, BorL (ρ.set i (mk ds')) σ j b ↔ BorL ρ σ j b := fun j b => by
      by_cases e : i = j
      · subst e
        rcases hm with rfl | rfl
        · constructor
          · rintro ⟨es, z1, z2⟩; rw [get_set_self hx] at z1; cases z1
          · rintro ⟨es, z1, z2⟩; rw [hx] at z1; cases z1
        · exact ⟨fun ⟨es, z1, z2⟩ => ⟨ds, hx, z2⟩, fun ⟨es, z1, z2⟩ => ⟨ds', get_set_self hx, z2⟩⟩
      · unfold BorL; rw [get_set_ne e]
    have he : ∀ b, Held (ρ.set i (mk ds')) σ b ↔ Held ρ σ b := fun b => by
      unfold Held
      simp only [ow, bo]
    refine ⟨⟨fun _ _ h => h, fun b o hb n => ?_, fun b hb => .inl hb, fun b ⟨j, hb⟩ => .inr ⟨j, (ow j b).mp hb⟩, bo, fun b hb => ?_⟩, ?_⟩
    · rw [upd_ne (fun e => n (by rw [e]; exact hh))]; exact hb
    · by_cases e : b = a
      · subst e; rw [upd_same] at hb; cases hb
      · rw [upd_ne e] at hb; exact hb
    · refine ⟨by rw [List.length_set]; exact s.len, fun b o hb => ?_, fun j x o z1 z2 => ?_, fun j l b z1 z2 => ?_, fun b hb => s.out b ((he b).mp hb)⟩
      · rw [upd_ne (fun e => by subst e; rw [s.out b hh] at hb; cases hb)]
        exact s.sub _ _ hb
      · by_cases e : i = j
        · subst e
          rw [get_set_self hx] at z1; cases z1
          rw [ho] at z2; cases z2
          have : LstR K F (upd H a (.lst vs')) a ds' := ⟨vs', upd_same, r⟩
          rcases hm with rfl | rfl <;> exact ⟨a, rfl, this⟩
        · rw [get_set_ne e] at z1
          have q := s.slot j x o z1 z2
          have far : ∀ b es, (x = .own es ∨ x = .bor es) → o = some (.ref b) → b ≠ a := fun b es hx' ho' e' => by
            subst e'; subst ho'
            refine e (s.uniq i j b ?_ ?_)
            · rcases hm with rfl | rfl
              · exact .inl ⟨ds, hx, ho⟩
              · exact .inr ⟨ds, hx, ho⟩
            · rcases hx' with rfl | rfl
              · exact .inl ⟨es, z1, z2⟩
              · exact .inr ⟨es, z1, z2⟩
          cases x with
          | un => exact trivial
          | fz d => exact q
          | own es => obtain ⟨b, e', z⟩ := q; exact ⟨b, e', z.mono (fun _ _ h => h) (upd_ne (far b es (.inl rfl) e'))⟩
          | bor es => obtain ⟨b, e', z⟩ := q; exact ⟨b, e', z.mono (fun _ _ h => h) (upd_ne (far b es (.inr rfl) e'))⟩
      · rw [ow, bo] at z1 z2
        exact s.uniq j l b z1 z2
  unfold heldS at h
  cases e : ρ[i]? with
  | none => rw [e] at h; exact h.elim
  | some x =>
    rw [e] at h
    cases x with
    | un => exact h.elim
    | fz d => exact h.elim
    | own ds => exact core _ .own ds e rfl (.inl rfl) (fun ds' => by unfold setH; rw [e]) h
    | bor ds => exact core _ .bor ds e rfl (.inr rfl) (fun ds' => by unfold setH; rw [e]) h

/-- a given value stays what it is -/
theorem RVr.carry (st : Stp ρ F σ H ρ' F' σ H') (h : RVr K H0 F H σ ρ v r) : RVr K H0 F' H' σ ρ' v r := by
  cases r with
  | fz d => exact Rp.mono st.fr h
  | own ds =>
    obtain ⟨a, e, ⟨vs, h1, h2⟩, h3, h4, h5⟩ := h
    refine ⟨a, e, ⟨vs, st.kp _ _ h1 h4, h2.mono st.fr⟩, ?_, fun z => ?_, h5⟩
    · cases q : F' a with
      | none => rfl
      | some o =>
        rcases st.nw a (by rw [q]; simp) with z | z | z
        · exact absurd h3 z
        · rw [h1] at z; cases z
        · exact absurd z.held h4
    · rcases st.heldBack z with z | z
      · rw [h1] at z; cases z
      · exact h4 z
/-- the values of a row: new lists all apart -/
def RVrs (K : PySem.W.Frag) (H0 F H : Hp) (σ : St) (ρ : Slots) : List V → List RV → Prop
  | [], [] => True
  | v :: vs, r :: rs => RVr K H0 F H σ ρ v r ∧ RVrs K H0 F H σ ρ vs rs ∧ ∀ ds, r = .own ds → ∀ (j : Nat) es, rs[j]? = some (.own es) → vs[j]? ≠ some v
  | _, _ => False
theorem RVrs.carry (st : Stp ρ F σ H ρ' F' σ H') : ∀ {vs : List V} {rs : List RV}, RVrs K H0 F H σ ρ vs rs → RVrs K H0 F' H' σ ρ' vs rs
  | [], [], _ => trivial
  | _ :: _, _ :: _, ⟨h1, h2, h3⟩ => ⟨h1.carry st, RVrs.carry st h2, h3⟩
theorem RVrs.back {H1 : Hp} (e : ∀ a, H1 a = none → H0 a = none) : ∀ {vs : List V} {rs : List RV}, RVrs K H1 F H σ ρ vs rs → RVrs K H0 F H σ ρ vs rs
  | [], [], _ => trivial
  | _ :: _, _ :: _, ⟨h1, h2, h3⟩ => ⟨h1.back e, RVrs.back e h2, h3⟩
theorem RVrs.length : ∀ {vs : List V} {rs : List RV}, RVrs K H0 F H σ ρ vs rs → vs.length = rs.length
  | [], [], _ => rfl
  | _ :: _, _ :: _, ⟨_, h2, _⟩ => congrArg (· + 1) (RVrs.length h2)
theorem RVrs.own_at : ∀ {vs : List V} {rs : List RV} {j : Nat} {es : List D}, RVrs K H0 F H σ ρ vs rs → rs[j]? = some (.own es) → ∃ a, vs[j]? = some (.ref a) ∧ RVr K H0 F H σ ρ (.ref a) (.own es)
  | [], [], _, _, _, h => by simp at h
  | v :: vs, r :: rs, 0, es, ⟨h1, _, _⟩, h => by
    simp at h; subst h
    have h1' := h1
    obtain ⟨a, rfl, _⟩ := h1
    exact ⟨a, rfl, h1'⟩
  | _ :: _, _ :: _, j + 1, es, ⟨_, h2, _⟩, h => by
    obtain ⟨a, z1, z2⟩ := RVrs.own_at (j := j) h2 (by simpa using h)
    exact ⟨a, by simpa using z1, z2⟩
theorem RVrs.onto {a : Addr} {o : HO} (e1 : Same F (upd F a o)) : ∀ {vs : List V} {rs : List RV}, RVrs K H0 F H σ ρ vs rs → (∀ (j : Nat) es, rs[j]? = some (.own es) → vs[j]? ≠ some (.ref a)) → RVrs K H0 (upd F a o) H σ ρ vs rs
  | [], [], _, _ => trivial
  | v :: vs, r :: rs, ⟨h1, h2, h3⟩, n => by
    refine ⟨?_, RVrs.onto e1 h2 fun j es z => by simpa using n (j + 1) es (by simpa using z), h3⟩
    cases r with
    | fz d => exact Rp.mono e1 h1
    | own ds =>
      obtain ⟨b, rfl, g1, g2, g3, g4⟩ := h1
      have nb : b ≠ a := fun e => n 0 ds (by simp) (by simp [e])
      exact ⟨b, rfl, g1.mono e1 rfl, by rw [upd_ne nb]; exact g2, g3, g4⟩
/-- all of a row is made to stand -/
theorem RVrs.freeze {F0 Hs : Hp} {ρ0 : Slots} : ∀ {vs : List V} {rs : List RV} {F : Hp}, Stp ρ0 F0 σ Hs ρ F σ H → SR K F H σ ρ → RVrs K Hs F H σ ρ vs rs →
    ∃ F', Stp ρ0 F0 σ Hs ρ F' σ H ∧ SR K F' H σ ρ ∧ Rps K F' vs (rs.map RV.d) ∧ Same F F'
  | [], [], F, st, s, _ => ⟨F, st, s, .nil, fun _ _ h => h⟩
  | v :: vs, r :: rs, F, st, s, ⟨h1, h2, h3⟩ => by
    cases r with
    | fz d =>
      have h1' : Rp K F v d := h1
      obtain ⟨F2, st2, s2, r2, e2⟩ := RVrs.freeze st s h2
      exact ⟨F2, st2, s2, .cons (h1'.mono e2) r2, e2⟩
    | own ds =>
      obtain ⟨a, rfl, ⟨ws, g1, g2⟩, nF, nh, n0⟩ := h1
      have e1 : Same F (upd F a (.lst ws)) := same_upd' nF
      have st1 : Stp ρ0 F0 σ Hs ρ (upd F a (.lst ws)) σ H := ⟨st.fr.trans e1, st.kp, fun b hb => by
        by_cases e : b = a
        · subst e; exact .inr (.inl n0)
        · rw [upd_ne e] at hb; exact st.nw b hb, st.ow, st.bo, st.dom⟩
      have s1 : SR K (upd F a (.lst ws)) H σ ρ := s.ext e1 (fun b o hb => by
        by_cases e : b = a
        · subst e; rw [upd_same] at hb; cases hb; exact g1
        · rw [upd_ne e] at hb; exact s.sub _ _ hb) (fun _ _ h _ => h) fun b hb => by
          rw [upd_ne (fun e => nh (by rw [← e]; exact hb))]; exact s.out b hb
      obtain ⟨F2, st2, s2, r2, e2⟩ := RVrs.freeze st1 s1 (h2.onto e1 (h3 ds rfl))
      exact ⟨F2, st2, s2, .cons (.lst (.inl (.inl (e2 _ _ upd_same))) ((g2.mono e1).mono e2)) r2, e1.trans e2⟩
end
abbrev WEs := Slots → (List RV → Slots → Prop) → Prop
def rdA (K : PySem.W.Frag) (w : WEs) : TA := fun σ H Q => ∃ F ρ Qt, SR K F H σ ρ ∧ w ρ Qt ∧ ∀ rs ρ' vs F' H', Qt rs ρ' → Stp ρ F σ H ρ' F' σ H' → SR K F' H' σ ρ' → RVrs K H F' H' σ ρ' vs rs → Q vs H'
/-- the same, all made to stand -/
def rdAF (K : PySem.W.Frag) (w : WEs) : TA := fun σ H Q => ∃ F ρ Qt, SR K F H σ ρ ∧ w ρ Qt ∧ ∀ rs ρ' vs F' H', Qt rs ρ' → Stp ρ F σ H ρ' F' σ H' → SR K F' H' σ ρ' → Rps K F' vs (rs.map RV.d) → Q vs H'

section
variable {X : Cx}
theorem _root_.L2.PA.imp {e : List Expr} {t t' : TA} (h : PA X e t) (i : ∀ σ H Q, t' σ H Q → t σ H Q) : PA X e t' :=
  ⟨fun pos pins s σ H Q I q => h.run pos pins s σ H Q I (i σ H Q q)⟩
theorem pa_nilT : PA X [] (rdA X.K fun ρ Q => Q [] ρ) := pa_nil.imp fun σ H Q ⟨F, ρ, Qt, s, hw, k⟩ => k _ _ _ _ _ hw .refl s trivial
theorem pa_consT {e : Expr} {es : List Expr} {w : WE} {ws : WEs} (h : PE X e (rdE X.K w)) (hs : PA X es (rdA X.K ws)) (hst : starEach (e :: es) X.env = (false, eval e X.env) :: starEach es X.env) :
    PA X (e :: es) (rdA X.K fun ρ Q => w ρ fun r ρ1 => ws ρ1 fun rs ρ2 => Q (r :: rs) ρ2) :=
  (pa_cons h hs hst).imp fun σ H Q ⟨F, ρ, Qt, s, hw, k⟩ => ⟨F, ρ, _, s, hw, fun r ρ1 v F1 H1 q1 st1 s1 rv => ⟨F1, ρ1, _, s1, q1, fun rs ρ2 vs F2 H2 q2 st2 s2 rvs =>
    k _ _ _ _ _ q2 (st1.trans st2) s2 ⟨rv.carry st2, rvs.back fun a h => st1.dom a h, fun ds e j es hj hv => by
      subst e
      obtain ⟨a, rfl, ⟨ws, g1, _⟩, _, _, _⟩ := rv
      obtain ⟨b, z1, z2⟩ := rvs.own_at hj
      rw [hv] at z1; cases z1
      obtain ⟨c, e, _, _, _, n⟩ := z2
      cases e
      rw [g1] at n; cases n⟩⟩⟩
theorem _root_.L2.PA.frz {es : List Expr} {w : WEs} (h : PA X es (rdA X.K w)) : PA X es (rdAF X.K w) :=
  h.imp fun σ H Q ⟨F, ρ, Qt, s, hw, k⟩ => ⟨F, ρ, Qt, s, hw, fun rs ρ' vs F' H' q st s' rv => by
    obtain ⟨F2, st2, s2, r2, _⟩ := rv.freeze st s'
    exact k _ _ _ _ _ q st2 s2 r2⟩

/-! ### names, constants -/
theorem e_var {i : Nat} {x : Str} {pos : Pos} (hN : X.N[i]? = some x) (hv : Vis X.env.scope x) (hd : (x == ("__debug__" : Str)) = false) (hc : (x == ("__classdict__" : Str)) = false) : PE X (.Name x pos) (rdE X.K (wpVar i)) :=
  (pe_var hN hv hd hc).imp fun σ H Q ⟨F, ρ, Qt, s, hw, k⟩ => by
    unfold wpVar at hw
    cases e : ρ[i]? with
    | none => rw [e] at hw; exact hw.elim
    | some z =>
      rw [e] at hw
      cases z with
      | un => exact hw.elim
      | bor ds => exact hw.elim
      | fz d =>
        obtain ⟨o, ho, v, rfl, h⟩ := slot_at s e
        exact ⟨v, ho, k _ _ _ _ _ hw .refl s h⟩
      | own ds =>
        obtain ⟨F', v, ho, st, s', h⟩ := s.frzSlot e
        exact ⟨v, ho, k _ _ _ _ _ hw st s' h⟩
theorem o_var {i : Nat} {x : Str} {pos : Pos} (hN : X.N[i]? = some x) (hv : Vis X.env.scope x) (hd : (x == ("__debug__" : Str)) = false) (hc : (x == ("__classdict__" : Str)) = false) :
    PE X (.Name x pos) (rdO X.K fun ρ k => lkS ρ[i]? (fun _ => True) ∧ k (.slot i) ρ) :=
  (pe_var hN hv hd hc).imp fun σ H Q ⟨F, ρ, Qt, s, ⟨h1, hw⟩, k⟩ => by
    have : ∃ v, σ[i]? = some (some v) := by
      cases e : ρ[i]? with
      | none => rw [e] at h1; exact h1.elim
      | some z =>
        rw [e] at h1
        obtain ⟨o, ho, q⟩ := slot_at s e
        cases z with
        | un => exact h1.elim
        | fz d => obtain ⟨v, rfl, h⟩ := q; exact ⟨v, ho⟩
        | own ds => obtain ⟨v, rfl, h⟩ := q; exact ⟨_, ho⟩
        | bor ds => obtain ⟨v, rfl, h⟩ := q; exact ⟨_, ho⟩
    obtain ⟨v, ho⟩ := this
    exact ⟨v, ho, k _ _ _ _ _ hw .refl s ho⟩
/-- an operand that is no name -/
theorem o_val {e : Expr} {w : WE} (h : PE X e (rdE X.K w)) : PE X e (rdO X.K fun ρ k => w ρ fun r ρ' => k (.val r.d) ρ') :=
  h.frz.imp fun σ H Q ⟨F, ρ, Qt, s, hw, k⟩ => ⟨F, ρ, _, s, hw, fun r ρ' v F' H' q st s' rp => k _ _ _ _ _ q st s' rp⟩
theorem e_lit {e : Expr} {v : V} {d : D} (h : PE X e (tC v)) (r : Rp X.K (fun _ => none) v d) : PE X e (rdE X.K fun ρ Q => Q (.fz d) ρ) :=
  h.imp fun σ H Q ⟨F, ρ, Qt, s, hw, k⟩ => k _ _ _ _ _ hw .refl s (Rp.mono (fun _ _ h => by cases h) r)

/-! ### displays -/
theorem e_tup {es : List Expr} {w : WEs} {k1 : Nat} {pos : Pos} (h : PA X es (rdA X.K w)) : PE X (.Tuple es k1 pos) (rdE X.K fun ρ Q => w ρ fun rs ρ1 => rs.length ≤ sizeLine ∧ Q (.fz (.tuple (rs.map RV.d))) ρ1) :=
  (pe_tup h.frz).imp fun σ H Q ⟨F, ρ, Qt, s, hw, k⟩ => ⟨F, ρ, _, s, hw, fun rs ρ1 vs F1 H1 ⟨hl, q⟩ st s1 r => ⟨by rw [r.length, List.length_map]; exact hl, fun p np => by
    obtain ⟨st2, s2, rv⟩ := (Gives.tup (K := X.K) np r).step s1
    exact k _ _ _ _ _ q (st.trans st2) s2 (rv.back fun a h => st.dom a h)⟩⟩
theorem e_lst {es : List Expr} {w : WEs} {pos : Pos} (h : PA X es (rdA X.K w)) : PE X (.List es pos) (rdE X.K fun ρ Q => w ρ fun rs ρ1 => rs.length ≤ sizeLine ∧ Q (.own (rs.map RV.d)) ρ1) :=
  (pe_lst h.frz).imp fun σ H Q ⟨F, ρ, Qt, s, hw, k⟩ => ⟨F, ρ, _, s, hw, fun rs ρ1 vs F1 H1 ⟨hl, q⟩ st s1 r => ⟨by rw [r.length, List.length_map]; exact hl, fun p np => by
    obtain ⟨st2, s2, rv⟩ := (Gives.lst (K := X.K) np r).step s1
    exact k _ _ _ _ _ q (st.trans st2) s2 (rv.back fun a h => st.dom a h)⟩⟩

/-! ### operations on one, two operands -/
theorem e_two {a b e : Expr} {wa wb : WO} {wp : D → D → VQ → Prop} (pe : PE X e (tOp (gv2 X.K wp) (rdO X.K wa) (rdO X.K wb))) :
    PE X e (rdE X.K fun ρ Q => wa ρ fun oa ρ1 => wb ρ1 fun ob ρ2 => lk ρ2 oa fun x => lk ρ2 ob fun y => wp x y fun r => Q r ρ2) :=
  pe.imp fun σ H Q ⟨F, ρ, Qt, s, hw, k⟩ => ⟨F, ρ, _, s, hw, fun oa ρ1 v1 F1 H1 q1 st1 s1 r1 => ⟨F1, ρ1, _, s1, q1, fun ob ρ2 v2 F2 H2 q2 st2 s2 r2 => by
    obtain ⟨dx, hx, q⟩ := (r1.mono st2.fr).look s2 q2
    obtain ⟨dy, hy, q⟩ := r2.look s2 q
    exact ⟨F2, dx, dy, _, s2.sub, hx, hy, q, fun r v F' H' q g => by
      obtain ⟨st3, s3, rv⟩ := g.step s2
      exact k _ _ _ _ _ q ((st1.trans st2).trans st3) s3 (rv.back fun a h => (st1.trans st2).dom a h)⟩⟩⟩
theorem e_twoD {e : Expr} {wa wb : WO} {wp : D → D → (D → Prop) → Prop} (pe : PE X e (tOp (gd2 X.K wp) (rdO X.K wa) (rdO X.K wb))) :
    PE X e (rdE X.K fun ρ Q => wa ρ fun oa ρ1 => wb ρ1 fun ob ρ2 => lk ρ2 oa fun x => lk ρ2 ob fun y => wp x y fun d => Q (.fz d) ρ2) :=
  pe.imp fun σ H Q ⟨F, ρ, Qt, s, hw, k⟩ => ⟨F, ρ, _, s, hw, fun oa ρ1 v1 F1 H1 q1 st1 s1 r1 => ⟨F1, ρ1, _, s1, q1, fun ob ρ2 v2 F2 H2 q2 st2 s2 r2 => by
    obtain ⟨dx, hx, q⟩ := (r1.mono st2.fr).look s2 q2
    obtain ⟨dy, hy, q⟩ := r2.look s2 q
    exact ⟨F2, dx, dy, _, s2.sub, hx, hy, q, fun d v q h => k _ _ _ _ _ q (st1.trans st2) s2 h⟩⟩⟩
theorem e_bin {a b : Expr} {o : Operator} {wa wb : WO} {pos : Pos} (ha : PE X a (rdO X.K wa)) (hb : PE X b (rdO X.K wb)) :
    PE X (.BinOp a o b pos) (rdE X.K fun ρ Q => wa ρ fun oa ρ1 => wb ρ1 fun ob ρ2 => lk ρ2 oa fun x => lk ρ2 ob fun y => wpBin o x y fun r => Q r ρ2) :=
  e_two (a := a) (b := b) (pe_op (op_bin o) ha hb)
theorem e_cmp (hu : X.A.units + 64 < cLine) {a b : Expr} {o : CmpOp} {wa wb : WO} {pos : Pos} (ha : PE X a (rdO X.K wa)) (hb : PE X b (rdO X.K wb)) (hm : behindInMarks o b = false) :
    PE X (.Compare a [o] [b] pos) (rdE X.K fun ρ Q => wa ρ fun oa ρ1 => wb ρ1 fun ob ρ2 => lk ρ2 oa fun x => lk ρ2 ob fun y => wpCmp o x y fun d => Q (.fz d) ρ2) :=
  e_twoD (pe_cmpR (op_cmp hu o) ha hb hm)
theorem e_idx {a b : Expr} {wa wb : WO} {pos : Pos} (ha : PE X a (rdO X.K wa)) (hb : PE X b (rdO X.K wb)) (hs : PlainIx b) :
    PE X (.Subscript a b pos) (rdE X.K fun ρ Q => wa ρ fun oa ρ1 => wb ρ1 fun ob ρ2 => lk ρ2 oa fun x => lk ρ2 ob fun y => wpIdx x y fun d => Q (.fz d) ρ2) :=
  e_twoD (pe_ix ix_any ha hb hs)
theorem e_chn (hu : X.A.units + 64 < cLine) {a b c : Expr} {o o' : CmpOp} {wa wb wc : WO} {pos : Pos} (ha : PE X a (rdO X.K wa)) (hb : PE X b (rdO X.K wb)) (hc : PE X c (rdO X.K wc)) (hm : lastMarks [o, o'] [b, c] = false) :
    PE X (.Compare a [o, o'] [b, c] pos) (rdE X.K fun ρ Q => wa ρ fun oa ρ1 => wb ρ1 fun ob ρ2 => lk ρ2 oa fun x => lk ρ2 ob fun y => wpCmp o x y fun d => asBool d fun k =>
      if k = true then wc ρ2 fun oc ρ3 => lk ρ3 ob fun y' => lk ρ3 oc fun z => wpCmp o' y' z fun d' => Q (.fz d') ρ3 else Q (.fz (.bool false)) ρ2) :=
  (pe_chain (op_cmp hu o) (op_cmp hu o') ha hb hc hm).imp fun σ H Q ⟨F, ρ, Qt, s, hw, k⟩ => ⟨F, ρ, _, s, hw, fun oa ρ1 v1 F1 H1 q1 st1 s1 r1 => ⟨F1, ρ1, _, s1, q1, fun ob ρ2 v2 F2 H2 q2 st2 s2 r2 => by
    obtain ⟨dx, hx, q⟩ := (r1.mono st2.fr).look s2 q2
    obtain ⟨dy, hy, q⟩ := r2.look s2 q
    refine ⟨F2, dx, dy, _, s2.sub, hx, hy, q, fun d v q h => ?_⟩
    cases d <;> first | exact (show False from q).elim | skip
    rename_i c
    cases h
    refine ⟨c, rfl, ?_⟩
    have q' : if c = true then _ else _ := q
    cases c with
    | false =>
      rw [if_neg (by decide)] at q' ⊢
      exact k _ _ _ _ _ q' (st1.trans st2) s2 (.bl _)
    | true =>
      rw [if_pos rfl] at q' ⊢
      refine ⟨F2, ρ2, _, s2, q', fun oc ρ3 v3 F3 H3 q3 st3 s3 r3 => ?_⟩
      obtain ⟨dy', hy', q⟩ := (r2.mono st3.fr).look s3 q3
      obtain ⟨dz, hz, q⟩ := r3.look s3 q
      exact ⟨F3, dy', dz, _, s3.sub, hy', hz, q, fun d v q h => k _ _ _ _ _ q ((st1.trans st2).trans st3) s3 h⟩⟩⟩
theorem e_neg {a : Expr} {wa : WO} {pos : Pos} (ha : PE X a (rdO X.K wa)) : PE X (.UnaryOp .USub a pos) (rdE X.K fun ρ Q => wa ρ fun oa ρ1 => lk ρ1 oa fun x => asInt x fun i => Q (.fz (.int (-i))) ρ1) :=
  (pe_un un_neg ha).imp fun σ H Q ⟨F, ρ, Qt, s, hw, k⟩ => ⟨F, ρ, _, s, hw, fun oa ρ1 v1 F1 H1 q1 st1 s1 r1 => by
    obtain ⟨dx, hx, q⟩ := r1.look s1 q1
    cases dx <;> first | exact (show False from q).elim | skip
    cases hx.int
    exact ⟨_, rfl, k _ _ _ _ _ q st1 s1 (.int _)⟩⟩
theorem e_not {a : Expr} {wa : WO} {pos : Pos} (ha : PE X a (rdO X.K wa)) : PE X (.UnaryOp .Not a pos) (rdE X.K fun ρ Q => wa ρ fun oa ρ1 => lk ρ1 oa fun x => asBool x fun i => Q (.fz (.bool (!i))) ρ1) :=
  (pe_not ha).imp fun σ H Q ⟨F, ρ, Qt, s, hw, k⟩ => ⟨F, ρ, _, s, hw, fun oa ρ1 v1 F1 H1 q1 st1 s1 r1 => by
    obtain ⟨dx, hx, q⟩ := r1.look s1 q1
    cases dx <;> first | exact (show False from q).elim | skip
    cases hx.bl
    exact ⟨_, rfl, k _ _ _ _ _ q st1 s1 (.bl _)⟩⟩
theorem isB {K : PySem.W.Frag} {F : Hp} {v : V} {r : RV} {k : Bool → Prop} (h : Rp K F v r.d) (q : asBool r.d k) : ∃ b, v = .bl b ∧ k b := by
  unfold asBool at q
  split at q
  · rename_i e
    rw [e] at h; cases h
    exact ⟨_, rfl, q⟩
  · exact q.elim
theorem isI {K : PySem.W.Frag} {F : Hp} {v : V} {r : RV} {k : Int → Prop} (h : Rp K F v r.d) (q : asInt r.d k) : ∃ b, v = .int b ∧ k b := by
  unfold asInt at q
  split at q
  · rename_i e
    rw [e] at h; cases h
    exact ⟨_, rfl, q⟩
  · exact q.elim
theorem e_and {a b : Expr} {rest : List Expr} {wa wb : WE} {pos : Pos} (ha : PE X a (rdE X.K wa)) (hb : PE X (.BoolOp .And (b :: rest) pos) (rdE X.K wb)) :
    PE X (.BoolOp .And (a :: b :: rest) pos) (rdE X.K fun ρ Q => wa ρ fun r ρ1 => asBool r.d fun k => if k = true then wb ρ1 Q else Q (.fz (.bool false)) ρ1) :=
  (pe_and ha.frz hb).imp fun σ H Q ⟨F, ρ, Qt, s, hw, k⟩ => ⟨F, ρ, _, s, hw, fun r ρ1 v F1 H1 q1 st1 s1 r1 => by
    obtain ⟨c, rfl, q⟩ := isB r1 q1
    refine ⟨c, rfl, ?_⟩
    cases c with
    | false =>
      rw [if_neg (by decide)] at q ⊢
      exact k _ _ _ _ _ q st1 s1 (.bl _)
    | true =>
      rw [if_pos rfl] at q ⊢
      exact ⟨F1, ρ1, _, s1, q, fun r ρ2 v F2 H2 q2 st2 s2 rv => k _ _ _ _ _ q2 (st1.trans st2) s2 (rv.back fun a h => st1.dom a h)⟩⟩
theorem e_or {a b : Expr} {rest : List Expr} {wa wb : WE} {pos : Pos} (ha : PE X a (rdE X.K wa)) (hb : PE X (.BoolOp .Or (b :: rest) pos) (rdE X.K wb)) :
    PE X (.BoolOp .Or (a :: b :: rest) pos) (rdE X.K fun ρ Q => wa ρ fun r ρ1 => asBool r.d fun k => if k = true then Q (.fz (.bool true)) ρ1 else wb ρ1 Q) :=
  (pe_or ha.frz hb).imp fun σ H Q ⟨F, ρ, Qt, s, hw, k⟩ => ⟨F, ρ, _, s, hw, fun r ρ1 v F1 H1 q1 st1 s1 r1 => by
    obtain ⟨c, rfl, q⟩ := isB r1 q1
    refine ⟨c, rfl, ?_⟩
    cases c with
    | true =>
      rw [if_pos rfl] at q ⊢
      exact k _ _ _ _ _ q st1 s1 (.bl _)
    | false =>
      rw [if_neg (by decide)] at q ⊢
      exact ⟨F1, ρ1, _, s1, q, fun r ρ2 v F2 H2 q2 st2 s2 rv => k _ _ _ _ _ q2 (st1.trans st2) s2 (rv.back fun a h => st1.dom a h)⟩⟩
abbrev WT := Slots → (Bool → Slots → Prop) → Prop
theorem e_ife {t a b : Expr} {wt : WT} {wa wb : WE} {pos : Pos} (ht : PT X t (rdT X.K wt)) (ha : PE X a (rdE X.K wa)) (hb : PE X b (rdE X.K wb)) :
    PE X (.IfExp t a b pos) (rdE X.K fun ρ Q => wt ρ fun k ρ1 => if k = true then wa ρ1 Q else wb ρ1 Q) :=
  (pe_ifExp ht ha hb).imp fun σ H Q ⟨F, ρ, Qt, s, hw, k⟩ => ⟨F, ρ, _, s, hw, fun c ρ1 F1 H1 q st1 s1 => by
    cases c with
    | true =>
      rw [if_pos rfl] at q ⊢
      exact ⟨F1, ρ1, _, s1, q, fun r ρ2 v F2 H2 q2 st2 s2 rv => k _ _ _ _ _ q2 (st1.trans st2) s2 (rv.back fun a h => st1.dom a h)⟩
    | false =>
      rw [if_neg (by decide)] at q ⊢
      exact ⟨F1, ρ1, _, s1, q, fun r ρ2 v F2 H2 q2 st2 s2 rv => k _ _ _ _ _ q2 (st1.trans st2) s2 (rv.back fun a h => st1.dom a h)⟩⟩

/-! ### tests -/
theorem t_of {e : Expr} {w : WO} (h : PE X e (rdO X.K w)) (he : ∀ whole, isTrue e X.env whole = (do let v ← whole; standAt e.pos; holding [v] (truthy v))) :
    PT X e (rdT X.K fun ρ Q => w ρ fun o ρ1 => lk ρ1 o fun x => wpTru x fun b => Q b ρ1) :=
  (pt_truth h he).imp fun σ H Q ⟨F, ρ, Qt, s, hw, k⟩ => ⟨F, ρ, _, s, hw, fun o ρ1 v F1 H1 q1 st1 s1 r1 => by
    obtain ⟨d, hd, q⟩ := r1.look s1 q1
    obtain ⟨b, h1, h2⟩ := tru_rel s1.sub hd q
    exact ⟨b, h1, k _ _ _ _ h2 st1 s1⟩⟩
theorem _root_.L2.PW.imp {e : Expr} {t t' : TT} (h : PW X e t) (i : ∀ σ H Q, t' σ H Q → t σ H Q) : PW X e t' :=
  ⟨fun whole pins s σ H Q I q => h.run whole pins s σ H Q I (i σ H Q q)⟩
theorem w_and {a b : Expr} {rest : List Expr} {wa wb : WT} {pos : Pos} (ha : PT X a (rdT X.K wa)) (hb : PW X (.BoolOp .And (b :: rest) pos) (rdT X.K wb)) :
    PW X (.BoolOp .And (a :: b :: rest) pos) (rdT X.K fun ρ Q => wa ρ fun k ρ1 => if k = true then wb ρ1 Q else Q false ρ1) :=
  (pw_and ha hb).imp fun σ H Q ⟨F, ρ, Qt, s, hw, k⟩ => ⟨F, ρ, _, s, hw, fun c ρ1 F1 H1 q st1 s1 => by
    cases c with
    | true =>
      rw [if_pos rfl] at q ⊢
      exact ⟨F1, ρ1, _, s1, q, fun r ρ2 F2 H2 q2 st2 s2 => k _ _ _ _ q2 (st1.trans st2) s2⟩
    | false =>
      rw [if_neg (by decide)] at q ⊢
      exact k _ _ _ _ q st1 s1⟩
theorem w_or {a b : Expr} {rest : List Expr} {wa wb : WT} {pos : Pos} (ha : PT X a (rdT X.K wa)) (hb : PW X (.BoolOp .Or (b :: rest) pos) (rdT X.K wb)) :
    PW X (.BoolOp .Or (a :: b :: rest) pos) (rdT X.K fun ρ Q => wa ρ fun k ρ1 => if k = true then Q true ρ1 else wb ρ1 Q) :=
  (pw_or ha hb).imp fun σ H Q ⟨F, ρ, Qt, s, hw, k⟩ => ⟨F, ρ, _, s, hw, fun c ρ1 F1 H1 q st1 s1 => by
    cases c with
    | false =>
      rw [if_neg (by decide)] at q ⊢
      exact ⟨F1, ρ1, _, s1, q, fun r ρ2 F2 H2 q2 st2 s2 => k _ _ _ _ q2 (st1.trans st2) s2⟩
    | true =>
      rw [if_pos rfl] at q ⊢
      exact k _ _ _ _ q st1 s1⟩
theorem t_not {a : Expr} {wa : WT} {pos : Pos} (ha : PT X a (rdT X.K wa)) : PT X (.UnaryOp .Not a pos) (rdT X.K fun ρ Q => wa ρ fun k ρ1 => Q (!k) ρ1) :=
  (pt_not ha).imp fun σ H Q ⟨F, ρ, Qt, s, hw, k⟩ => ⟨F, ρ, _, s, hw, fun c ρ1 F1 H1 q st1 s1 => k _ _ _ _ q st1 s1⟩

/-! ### slices -/
abbrev WCO := Slots → (Option Int → Slots → Prop) → Prop
def rdCO (K : PySem.W.Frag) (w : WCO) : TO := fun σ H Q => ∃ F ρ Qt, SR K F H σ ρ ∧ w ρ Qt ∧ ∀ o ρ' F' H', Qt o ρ' → Stp ρ F σ H ρ' F' σ H' → SR K F' H' σ ρ' → Q o H'
theorem _root_.L2.PO.imp {e : Option Expr} {t t' : TO} (h : PO X e t) (i : ∀ σ H Q, t' σ H Q → t σ H Q) : PO X e t' :=
  ⟨fun pins s σ H Q I q => h.run pins s σ H Q I (i σ H Q q)⟩
theorem co_no : PO X none (rdCO X.K fun ρ Q => Q none ρ) := po_none.imp fun σ H Q ⟨F, ρ, Qt, s, hw, k⟩ => k _ _ _ _ hw .refl s
theorem co_so {e : Expr} {w : WE} (h : PE X e (rdE X.K w)) : PO X (some e) (rdCO X.K fun ρ Q => w ρ fun r ρ1 => asInt r.d fun i => Q (some i) ρ1) :=
  (po_some h.frz).imp fun σ H Q ⟨F, ρ, Qt, s, hw, k⟩ => ⟨F, ρ, _, s, hw, fun r ρ1 v F1 H1 q1 st1 s1 r1 => by
    obtain ⟨i, rfl, q⟩ := isI r1 q1
    exact ⟨i, rfl, k _ _ _ _ q st1 s1⟩⟩
theorem e_slc {a : Expr} {lo hi : Option Expr} {wa : WO} {wl wh : WCO} {pos p2 : Pos} (ha : PE X a (rdO X.K wa)) (hl : PO X lo (rdCO X.K wl)) (hh : PO X hi (rdCO X.K wh)) :
    PE X (.Subscript a (.Slice lo hi none p2) pos) (rdE X.K fun ρ Q => wa ρ fun oa ρ1 => wl ρ1 fun l ρ2 => wh ρ2 fun h ρ3 => lk ρ3 oa fun x => wpSlc x l h fun r => Q r ρ3) :=
  (pe_slice sl_any ha hl hh).imp fun σ H Q ⟨F, ρ, Qt, s, hw, k⟩ => ⟨F, ρ, _, s, hw, fun oa ρ1 v1 F1 H1 q1 st1 s1 r1 => ⟨F1, ρ1, _, s1, q1, fun l ρ2 F2 H2 q2 st2 s2 => ⟨F2, ρ2, _, s2, q2, fun h ρ3 F3 H3 q3 st3 s3 => by
    obtain ⟨dx, hx, q⟩ := ((r1.mono st2.fr).mono st3.fr).look s3 q3
    exact ⟨F3, dx, _, s3.sub, hx, q, fun r v F' H' q g => by
      obtain ⟨st4, s4, rv⟩ := g.step s3
      exact k _ _ _ _ _ q (((st1.trans st2).trans st3).trans st4) s4 (rv.back fun a h => ((st1.trans st2).trans st3).dom a h)⟩⟩⟩⟩
/-! ### a[::-1] -/
theorem e_rvs {a : Expr} {wa : WO} {k1 : Nat} {p1 p2 p3 pos : Pos} (ha : PE X a (rdO X.K wa)) :
    PE X (.Subscript a (.Slice none none (some (.UnaryOp .USub (.Constant (.int 1) k1 p1) p2)) p3) pos) (rdE X.K fun ρ Q => wa ρ fun oa ρ1 => lk ρ1 oa fun x => wpRvs x fun r => Q r ρ1) :=
  (TZ.pe_rev ha).imp fun σ H Q ⟨F, ρ, Qt, s, hw, k⟩ => ⟨F, ρ, _, s, hw, fun oa ρ1 v1 F1 H1 q1 st1 s1 r1 => by
    obtain ⟨dx, hx, q⟩ := r1.look s1 q1
    have fin : ∀ {r : RV} {v : V} {F' H' : Hp}, Qt r ρ1 → Gives X.K F1 H1 v r F' H' → Q v H' := fun q g => by
      obtain ⟨st4, s4, rv⟩ := g.step s1
      exact k _ _ _ _ _ q (st1.trans st4) s4 (rv.back fun a h => st1.dom a h)
    unfold wpRvs at q
    split at q
    · obtain ⟨a, vs, rfl, h, r⟩ := hx.list s1.sub
      exact ⟨a, vs, rfl, .inl ⟨h.sq, fun p np => fin q (.lst np r.reverse)⟩⟩
    · obtain ⟨a, vs, rfl, h, r, _⟩ := hx.tuple s1.sub
      exact ⟨a, vs, rfl, .inr ⟨h, fun p np => fin q (.tup np r.reverse)⟩⟩
    · exact q.elim⟩
/-! ### methods of one value -/
def idM : M1 → String
  | .sw => "str.startswith"
  | .ew => "str.endswith"
  | .ix => "list.index"
  | .ixd => "list.index"
def nameM : M1 → Str
  | .sw => "startswith"
  | .ew => "endswith"
  | .ix => "index"
  | .ixd => "index"
theorem mt_any (hu : X.A.units + 65 < cLine) (m : M1) : MtR X (idM m) (fun x xs H Q => ∃ y F dx dy Qr, xs = [y] ∧ Same F H ∧ RdD X.K F H x dx ∧ RdD X.K F H y dy ∧ wpM1 m dx dy Qr ∧ ∀ d v, Qr d → Rp X.K F v d → Q v H) := by
  rintro pins s σ H x xs v us Q I rx rxs ⟨y, F, dx, dy, Qr, rfl, sm, hx, hy, hw, k⟩
  unfold wpM1 at hw
  split at hw
  · cases hx.str; cases hy.str
    exact mt_startswith pins s σ H _ _ v us Q I rx rxs ⟨_, _, rfl, rfl, k _ _ hw (.bl _)⟩
  · cases hx.str; cases hy.str
    exact mt_endswith pins s σ H _ _ v us Q I rx rxs ⟨_, _, rfl, rfl, k _ _ hw (.bl _)⟩
  · obtain ⟨a, vs, rfl, h, r⟩ := hx.list sm
    obtain ⟨f1, f2, j, z, hz, he, hn, q⟩ := hw
    have ry := flat_std hy f1
    obtain ⟨w, hw', rw'⟩ := r.get hz
    have fz : flatD z = true := List.all_eq_true.mp f2 z (List.mem_of_getElem? hz)
    refine mt_index pins s σ H _ _ v us Q I rx rxs ⟨a, vs, y, j, w, rfl, rfl, h.sq, flat_rel ry f1, flat_rels r f2, hw', by rw [eqv_rel rw' ry fz f1]; exact he, fun m z' hm hz' => ?_, k _ _ q (.int _)⟩
    obtain ⟨d', hd', rp'⟩ := r.get' hz'
    have fz' : flatD d' = true := List.all_eq_true.mp f2 d' (List.mem_of_getElem? hd')
    rw [eqv_rel rp' ry fz' f1]
    exact hn m d' hm hd'
  · obtain ⟨a, vs, rfl, h, r⟩ := hx.list sm
    obtain ⟨f1, f2, j, z, hz, he, hn, q⟩ := hw
    exact mt_indexD hu pins s σ H _ _ v us Q I rx rxs ⟨a, y, _, _, j, z, rfl, rfl, rdD_dp hx sm f1, rdD_dp hy sm f2, f1, f2, hz, he, hn, k _ _ q (.int _)⟩
  · exact hw.elim
theorem tyV_of {F H : Hp} {x : V} {d : D} {T : String} (sm : Same F H) (hx : RdD X.K F H x d) (e : tyD d = T) (hT : T = "str" ∨ T = "list") : tyV X.K T x H := by
  rcases hT with rfl | rfl
  · cases d <;> first | (simp [tyD] at e; done) | skip
    cases hx.str; rfl
  · cases d <;> first | (simp [tyD] at e; done) | skip
    obtain ⟨a, vs, rfl, h, r⟩ := hx.list sm
    exact .inl ⟨rfl, vs, h.sq⟩
theorem e_met {e : Expr} {m : M1} {wa wb : WO} (pe : PE X e (tBM X.K (tyM m) (fun x xs H Q => ∃ y F dx dy Qr, xs = [y] ∧ Same F H ∧ RdD X.K F H x dx ∧ RdD X.K F H y dy ∧ wpM1 m dx dy Qr ∧ ∀ d v, Qr d → Rp X.K F v d → Q v H) (rdO X.K wa) (tCons (rdO X.K wb) tNil))) :
    PE X e (rdE X.K fun ρ Q => wa ρ fun oa ρ1 => lk ρ1 oa (fun x => tyD x = tyM m) ∧ wb ρ1 fun ob ρ2 => lk ρ2 oa fun x => lk ρ2 ob fun y => wpM1 m x y fun d => Q (.fz d) ρ2) :=
  pe.imp fun σ H Q ⟨F, ρ, Qt, s, hw, k⟩ => ⟨F, ρ, _, s, hw, fun oa ρ1 v1 F1 H1 ⟨qt, q1⟩ st1 s1 r1 => by
    obtain ⟨d0, h0, e0⟩ := r1.look s1 qt
    refine ⟨tyV_of s1.sub h0 e0 (by cases m <;> simp [tyM]), F1, ρ1, _, s1, q1, fun ob ρ2 v2 F2 H2 q2 st2 s2 r2 => ?_⟩
    obtain ⟨dx, hx, q⟩ := (r1.mono st2.fr).look s2 q2
    obtain ⟨dy, hy, q⟩ := r2.look s2 q
    exact ⟨v2, F2, dx, dy, _, rfl, s2.sub, hx, hy, q, fun d v q h => k _ _ _ _ _ q (st1.trans st2) s2 h⟩⟩
/-- {} -/
theorem e_emp {pos : Pos} : PE X (.Dict [] [] pos) (rdE X.K fun ρ Q => Q (.fz (.dict [])) ρ) :=
  pe_dnewK.imp fun σ H Q ⟨F, ρ, Qt, s, hw, k⟩ => fun p np => by
    obtain ⟨st2, s2, rv⟩ := (Gives.dct (K := X.K) (ks := []) np rfl .nil).step s
    exact k _ _ _ _ _ hw st2 s2 rv
theorem t_ite {c a b : Expr} {wt wa wb : WT} {pos : Pos} (hc : PT X c (rdT X.K wt)) (ha : PT X a (rdT X.K wa)) (hb : PT X b (rdT X.K wb)) : PT X (.IfExp c a b pos) (rdT X.K fun ρ Q => wt ρ fun k ρ1 => if k = true then wa ρ1 Q else wb ρ1 Q) :=
  ⟨fun pins s σ H Q I ⟨F, ρ, Qt, sr, hw, k⟩ => by
    show wpAny _ _ (isTrue c X.env (eval c X.env) >>= fun r => if r = true then isTrue a X.env (eval a X.env) else isTrue b X.env (eval b X.env)) _ _ _
    refine wpAny_bind (thn (hc.run pins s σ H (fun d H1 => if d = true then rdT X.K wa σ H1 Q else rdT X.K wb σ H1 Q) I ⟨F, ρ, _, sr, hw, fun d ρ1 F1 H1 q st1 s1 => ?_⟩) fun d s1 ⟨H1, I1, q1⟩ => ?_)
    · cases d with
      | true =>
        rw [if_pos rfl] at q ⊢
        exact ⟨F1, ρ1, _, s1, q, fun b ρ2 F2 H2 q2 st2 s2 => k _ _ _ _ q2 (st1.trans st2) s2⟩
      | false =>
        rw [if_neg (by decide)] at q ⊢
        exact ⟨F1, ρ1, _, s1, q, fun b ρ2 F2 H2 q2 st2 s2 => k _ _ _ _ q2 (st1.trans st2) s2⟩
    · cases d with
      | true =>
        rw [if_pos rfl] at q1 ⊢
        exact ha.run pins s1 σ H1 Q I1 q1
      | false =>
        rw [if_neg (by decide)] at q1 ⊢
        exact hb.run pins s1 σ H1 Q I1 q1⟩
/-! ### dict displays of one and of two keys -/
theorem dict_end {K : PySem.W.Frag} {F F2 H H2 : Hp} {σ : St} {ρ ρ2 : Slots} {p : Addr} {ks : List Key} {vs : List V} {ds : List D} (s : SR K F H σ ρ) (np : H p = none) (st : Stp ρ F σ (upd H p (.dK [])) ρ2 F2 σ H2) (s2 : SR K F2 H2 σ ρ2) (l : ks.length = vs.length) (r : Rps K F2 vs ds) :
    Stp ρ F σ H ρ2 (upd F2 p (.dK (ks.zip vs))) σ (upd H2 p (.dK (ks.zip vs))) ∧ SR K (upd F2 p (.dK (ks.zip vs))) (upd H2 p (.dK (ks.zip vs))) σ ρ2 ∧ Rp K (upd F2 p (.dK (ks.zip vs))) (.ref p) (.dict ((ks.map kD).zip ds)) ∧ H2 p = some (.dK []) := by
  have hp : H2 p = some (.dK []) := st.kp p _ upd_same (s.heldNe np)
  have nF : F2 p = none := by
    cases e : F2 p with
    | none => rfl
    | some o =>
      rcases st.nw p (by rw [e]; simp) with q | q | q
      · exact absurd (s.freeOf np) q
      · rw [upd_same] at q; cases q
      · exact absurd q.held (s.heldNe np)
  have e1 : Same F2 (upd F2 p (.dK (ks.zip vs))) := same_upd' nF
  have nh : ¬ Held ρ2 σ p := fun q => by
    rcases st.heldBack q with z | z
    · rw [upd_same] at z; cases z
    · exact s.heldNe np z
  refine ⟨⟨st.fr.trans e1, fun a o h n => ?_, fun a h => ?_, fun a h => ?_, st.bo, fun a h => ?_⟩, s2.ext e1 (fun a o h => ?_) (fun a o h hh => ?_) (fun a hh => ?_), .dct upd_same l (r.mono e1), hp⟩
  · have ne : a ≠ p := fun e => by rw [e, np] at h; cases h
    rw [upd_ne ne]
    exact st.kp a o (by rw [upd_ne ne]; exact h) n
  · by_cases e : a = p
    · rw [e]; exact .inr (.inl np)
    · rw [upd_ne e] at h
      rcases st.nw a h with q | q | q
      · exact .inl q
      · rw [upd_ne e] at q; exact .inr (.inl q)
      · exact .inr (.inr q)
  · rcases st.ow a h with q | q
    · by_cases e : a = p
      · rw [e]; exact .inl np
      · rw [upd_ne e] at q; exact .inl q
    · exact .inr q
  · by_cases e : a = p
    · rw [e]; exact np
    · rw [upd_ne e] at h
      have := st.dom a h
      rwa [upd_ne e] at this
  · by_cases e : a = p
    · subst e; rw [upd_same] at h ⊢; exact h
    · rw [upd_ne e] at h ⊢; exact s2.sub _ _ h
  · rw [upd_ne (fun e => nh (by rw [← e]; exact hh))]; exact h
  · rw [upd_ne (fun e => nh (by rw [← e]; exact hh))]; exact s2.out a hh
theorem laidD {K : PySem.W.Frag} {F H : Hp} {σ : St} {ρ : Slots} (s : SR K F H σ ρ) {p : Addr} {o : HO} (n : H p = none) : SR K F (upd H p o) σ ρ :=
  s.ext (fun _ _ h => h) (fun a x ha => (same_upd' n) _ _ (s.sub _ _ ha)) (fun a x ha _ => (same_upd' n) _ _ ha) s.out
theorem e_dc1 {a : Expr} {wa : WE} {k : Int} {k1 : Nat} {p1 pos : Pos} (ha : PE X a (rdE X.K wa)) :
    PE X (.Dict [some (.Constant (.int k) k1 p1)] [a] pos) (rdE X.K fun ρ Q => wa ρ fun r ρ1 => Q (.fz (.dict [(.int k, r.d)])) ρ1) :=
  (pe_disp (pps_cons pe_int ha.frz pps_nil) rfl rfl (by simp) (by simp)).imp fun σ H Q ⟨F, ρ, Qt, s, hw, kk⟩ => fun p np => ⟨F, ρ, _, laidD s np, hw, fun r ρ1 v F1 H1 q1 st1 s1 rp => by
    obtain ⟨st, s', rd, hp⟩ := dict_end (ks := [.inl k]) s np st1 s1 rfl (.one rp)
    exact ⟨hp, [(.inl k, v)], rfl, by simp, kk _ _ _ _ _ q1 st s' rd⟩⟩
theorem e_dc2 {a b : Expr} {wa wb : WE} {k k' : Int} {k1 k2 : Nat} {p1 p2 pos : Pos} (ha : PE X a (rdE X.K wa)) (hb : PE X b (rdE X.K wb)) :
    PE X (.Dict [some (.Constant (.int k) k1 p1), some (.Constant (.int k') k2 p2)] [a, b] pos) (rdE X.K fun ρ Q => k ≠ k' ∧ wa ρ fun r ρ1 => wb ρ1 fun r2 ρ2 => Q (.fz (.dict [(.int k, r.d), (.int k', r2.d)])) ρ2) :=
  (pe_disp (pps_cons pe_int ha.frz (pps_cons pe_int hb.frz pps_nil)) rfl rfl (by simp) (by simp)).imp fun σ H Q ⟨F, ρ, Qt, s, ⟨ne, hw⟩, kk⟩ => fun p np => ⟨F, ρ, _, laidD s np, hw, fun r ρ1 v F1 H1 q1 st1 s1 rp => ⟨F1, ρ1, _, s1, q1, fun r2 ρ2 v2 F2 H2 q2 st2 s2 rp2 => by
    obtain ⟨st, s', rd, hp⟩ := dict_end (ks := [.inl k, .inl k']) s np (st1.trans st2) s2 rfl (.cons (rp.mono st2.fr) (.one rp2))
    refine ⟨hp, [(.inl k, v), (.inl k', v2)], rfl, by simp, ?_⟩
    have e : mergeK [] [(Sum.inl k, v), (Sum.inl k', v2)] = ([.inl k, .inl k'] : List Key).zip [v, v2] := by
      have h : (Sum.inl k' : Key) ≠ .inl k := fun e => ne (Sum.inl.inj e).symm
      have h2 : (Sum.inl k : Key) ≠ .inl k' := fun e => ne (Sum.inl.inj e)
      simp [mergeK, putK, h, h2]
    rw [e]
    exact kk _ _ _ _ _ q2 st s' rd⟩⟩
end
end TL
end
section
set_option autoImplicit false
set_option maxHeartbeats 1000000
/-! TL7: calls: of built-ins, of defs of the text -/
namespace TL
open PySem PySem.Spec PyProof.Rows L2

section
variable {X : Cx}
/-! ### built-ins -/
theorem e_call1 {e : Expr} {wa : WO} {wp : D → VQ → Prop} (pe : PE X e (tCB (c1 X.K wp) (tCons (rdO X.K wa) tNil))) : PE X e (rdE X.K fun ρ Q => wa ρ fun oa ρ1 => lk ρ1 oa fun x => wp x fun r => Q r ρ1) :=
  pe.imp fun σ H Q ⟨F, ρ, Qt, s, hw, k⟩ => ⟨F, ρ, _, s, hw, fun oa ρ1 v1 F1 H1 q1 st1 s1 r1 => by
    obtain ⟨dx, hx, q⟩ := r1.look s1 q1
    exact ⟨v1, rfl, F1, dx, _, s1.sub, hx, q, fun r v F' H' q g => by
      obtain ⟨st3, s3, rv⟩ := g.step s1
      exact k _ _ _ _ _ q (st1.trans st3) s3 (rv.back fun a h => st1.dom a h)⟩⟩
theorem e_call2 {e : Expr} {wa wb : WO} {wp : D → D → VQ → Prop} (pe : PE X e (tCB (c2 X.K wp) (tCons (rdO X.K wa) (tCons (rdO X.K wb) tNil)))) :
    PE X e (rdE X.K fun ρ Q => wa ρ fun oa ρ1 => wb ρ1 fun ob ρ2 => lk ρ2 oa fun x => lk ρ2 ob fun y => wp x y fun r => Q r ρ2) :=
  pe.imp fun σ H Q ⟨F, ρ, Qt, s, hw, k⟩ => ⟨F, ρ, _, s, hw, fun oa ρ1 v1 F1 H1 q1 st1 s1 r1 => ⟨F1, ρ1, _, s1, q1, fun ob ρ2 v2 F2 H2 q2 st2 s2 r2 => by
    obtain ⟨dx, hx, q⟩ := (r1.mono st2.fr).look s2 q2
    obtain ⟨dy, hy, q⟩ := r2.look s2 q
    exact ⟨v1, v2, rfl, F2, dx, dy, _, s2.sub, hx, hy, q, fun r v F' H' q g => by
      obtain ⟨st3, s3, rv⟩ := g.step s2
      exact k _ _ _ _ _ q ((st1.trans st2).trans st3) s3 (rv.back fun a h => (st1.trans st2).dom a h)⟩⟩⟩
/-- the names of built-in types, a row -/
def tTys (ts : List String) : TA := fun _ H Q => Q (ts.map V.ty) H
theorem pa_ty {x : Str} {t : String} {p : Pos} {es : List Expr} {ts : List String} (hg : Gl X x) (hm : X.mg x = none) (hv : bootBuiltins x = some (.type t)) (hn : x ≠ "__name__") (hd : (x == ("__debug__" : Str)) = false) (h : PA X es (tTys ts))
    (hs : starEach (.Name x p :: es) X.env = (false, eval (.Name x p) X.env) :: starEach es X.env) : PA X (.Name x p :: es) (tTys (t :: ts)) :=
  (pa_cons (pe_bltn (v := .ty t) hg hm hv rfl hn hd) h hs).imp fun σ H Q q => q
theorem pa_ty0 : PA X [] (tTys []) := pa_nil.imp fun σ H Q q => q
/-- isinstance(a, T) -/
theorem e_isi1 {e : Expr} {wa : WO} {t : String} (ht : t ∈ knownTy) (pe : PE X e (tCB (fun xs H Q => ∃ (x : V) (t : String), xs = [x, .ty t] ∧ t ∈ knownTy ∧ gv1 X.K (fun d Q => Q (.fz (.bool (isiD d t)))) x H Q) (tCons (rdO X.K wa) (tTys [t])))) :
    PE X e (rdE X.K fun ρ Q => wa ρ fun oa ρ1 => lk ρ1 oa fun x => Q (.fz (.bool ([t].any (isiD x)))) ρ1) :=
  pe.imp fun σ H Q ⟨F, ρ, Qt, s, hw, k⟩ => ⟨F, ρ, _, s, hw, fun oa ρ1 v1 F1 H1 q1 st1 s1 r1 => by
    obtain ⟨dx, hx, q⟩ := r1.look s1 q1
    rw [show ([t].any (isiD dx)) = isiD dx t by simp] at q
    refine ⟨v1, t, rfl, ht, F1, dx, fun r => Qt r ρ1, s1.sub, hx, q, fun r v F' H' q g => ?_⟩
    obtain ⟨st3, s3, rv⟩ := g.step s1
    exact k _ _ _ _ _ q (st1.trans st3) s3 (rv.back fun a h => st1.dom a h)⟩
/-- a tuple that nobody keeps is laid -/
theorem SR.laid {K : PySem.W.Frag} {F H : Hp} {σ : St} {ρ : Slots} (s : SR K F H σ ρ) {p : Addr} {o : HO} (n : H p = none) : Stp ρ F σ H ρ F σ (upd H p o) ∧ SR K F (upd H p o) σ ρ := by
  have e2 : Same H (upd H p o) := same_upd' n
  exact ⟨.same (fun _ _ h => h) (fun a x h _ => e2 _ _ h) (fun a ha => .inl ha) (fun a ha => e2.free ha), s.ext (fun _ _ h => h) (fun a x ha => e2 _ _ (s.sub _ _ ha)) (fun a x ha _ => e2 _ _ ha) s.out⟩
theorem kit_alls (K : PySem.W.Frag) (d : D) : ∀ ts : List String, (∀ t ∈ ts, t ∈ knownTy) → PySem.W.kitAny K (.type (tyD d)) (ts.map Value.type) = some (ts.any (isiD d))
  | [], _ => kitAny_nil
  | t :: ts, h => by
    rw [List.map_cons, List.any_cons]
    refine kitAny_cons (kit_ty (kit_all d t (h t List.mem_cons_self))) (fun e => ?_) fun e => ?_
    · rw [e, Bool.false_or]; exact kit_alls K d ts fun x hx => h x (List.mem_cons_of_mem _ hx)
    · rw [e, Bool.true_or]
theorem tys_paired : ∀ ts : List String, Paired ClsV (ts.map V.ty) (ts.map Value.type)
  | [] => .nil
  | t :: ts => .cons (.ty t) (tys_paired ts)
theorem e_isiN {e : Expr} {wa : WO} {ts : List String} (ht : ∀ t ∈ ts, t ∈ knownTy) (pe : PE X e (tCB (rIsiT X.K) (tCons (rdO X.K wa) (tCons (tTup (tTys ts)) tNil)))) (hl : (ts.map V.ty).length ≤ sizeLine) :
    PE X e (rdE X.K fun ρ Q => wa ρ fun oa ρ1 => lk ρ1 oa fun x => Q (.fz (.bool (ts.any (isiD x)))) ρ1) :=
  pe.imp fun σ H Q ⟨F, ρ, Qt, s, hw, k⟩ => ⟨F, ρ, _, s, hw, fun oa ρ1 v1 F1 H1 q1 st1 s1 r1 => ⟨hl, fun p np => by
    obtain ⟨st2, s2⟩ := s1.laid (o := .tup (ts.map V.ty)) np
    obtain ⟨dx, hx, q⟩ := (r1.mono st2.fr).look s2 q1
    exact ⟨v1, p, _, _, _, _, rfl, upd_same, tys_paired ts, tyX s2.sub hx, kit_alls X.K dx ts ht, k _ _ _ _ _ q (st1.trans st2) s2 (.bl _)⟩⟩⟩

/-! ### x.pop() of a slot's list -/
theorem e_pop {i : Nat} {x : Str} {pos apos cpos : Pos} (hN : X.N[i]? = some x) (hv : Vis X.env.scope x) (hd : (x == ("__debug__" : Str)) = false) (hc : (x == ("__classdict__" : Str)) = false)
    (pe : PE X (.Call (.Attribute (.Name x pos) "pop" apos) [] [] cpos) (tBM0 X.K "list" rPop (tVar i))) :
    PE X (.Call (.Attribute (.Name x pos) "pop" apos) [] [] cpos) (rdE X.K fun ρ Q => heldS ρ i fun ds => ∃ d, ds[ds.length - 1]? = some d ∧ Q (.fz d) (setH ρ i ds.dropLast)) :=
  pe.imp fun σ H Q ⟨F, ρ, Qt, s, hw, k⟩ => by
    obtain ⟨a, vs, ds, ho, hH, r, ⟨d, hd, q⟩, _, up⟩ := s.write hw
    obtain ⟨w, hw', rp⟩ := r.get hd
    obtain ⟨st, s'⟩ := up vs.dropLast ds.dropLast r.dropLast
    refine ⟨.ref a, ho, .inl ⟨rfl, vs, SqL.of hH⟩, a, vs, w, rfl, rfl, hH, by rw [r.length]; exact hw', k _ _ _ _ _ q st s' rp⟩
end

/-! ### defs of the text -/
/-- a def's promise; nothing is being shown (repr) around -/
structure FnG (P : Program) (w : World) (K : PySem.W.Frag) (mg : Str → Option Value) (base : Heap) (k : Nat) (f : Addr) (fd : FuncData) (ps : List Str) (sp : Sp) : Prop where
  len : ∀ vs H Q E, sp vs H Q E → vs.length = ps.length
  run : ∀ (A : Around) (outer : List PySem.Env) (s : Shared) (H : Hp) (args : Args) (us : List Value) (vs : List V) (Q : VK) (E : XK), Room k A → A.guards = some [] → Env0 P w K mg base A outer s H → BindsTo s fd args (ps.zip us) → Vals vs us → sp vs H Q E →
    codeAny (model P w) A (.call (.ref f) args) (CR CX0 outer P w H s Q E) s
/-- what a call's end says of the value -/
def RVc (K : PySem.W.Frag) (H F' H' : Hp) (v : V) (r : RV) : Prop := match r with
  | .fz d => Rp K F' v d
  | .own ds => ∃ a, v = .ref a ∧ LstR K F' H' a ds ∧ F' a = none ∧ H a = none
abbrev RunW := List D → (RV → List D → Prop) → Prop
/-- the promise «as R says», of trees -/
def spN (K : PySem.W.Frag) (n : Nat) (R : RunW) : Sp := fun vs H Q _ => vs.length = n ∧ ∃ F ds Qt, Same F H ∧ Rps K F vs ds ∧ R ds Qt ∧
  ∀ r out v F' H', Qt r out → Same F F' → Same F' H' → Same H H' → (∀ b, F' b ≠ none → F b ≠ none ∨ H b = none) → RVc K H F' H' v r → Q v H'
/-- the same, the first argument a list that is lent -/
def spP (K : PySem.W.Frag) (n : Nat) (R : RunW) : Sp := fun vs H Q _ => vs.length = n ∧ ∃ F a ws vs' pd ds Qt, vs = .ref a :: vs' ∧ Same F H ∧ F a = none ∧ H a = some (.lst ws) ∧ Rps K F ws pd ∧ Rps K F vs' ds ∧ R (.list pd :: ds) Qt ∧
  ∀ r out v F' H', Qt r out → Same F F' → Same F' H' → (∀ b o, H b = some o → b ≠ a → H' b = some o) → (∀ b, F' b ≠ none → F b ≠ none ∨ H b = none) → (∀ b, H' b = none → H b = none) → LstR K F' H' a out → RVc K H F' H' v r → Q v H'
section
variable {X : Cx} {k n : Nat} {f : Addr} {fd : FuncData} {ps : List Str} {sp : Sp} {x : Str} {p pos : Pos} {e : Expr} {es : List Expr} {t : TA}
theorem g_run {pins : List (Addr × Obj)} {σ : St} {H : Hp} {s : Shared} {Q : VK} {us : List Value} {vs : List V} (F : FnG X.prog X.w X.K X.mg X.base k f fd ps sp) (hr : Room k X.A) (hgd : X.A.guards = some []) (hb : L2.Binds X.K fd ps [])
    (I : Inv X pins σ H s) (r : Vals vs us) (h : sp vs H Q E0) : wpAny (model X.prog X.w) X.A (call (.ref f) us) (EP X pins σ Q) X.xe s := by
  have hl : (us ++ []).length = ps.length := by rw [List.append_nil, ← r.length]; exact F.len _ _ _ _ h
  have hbs := hb s us I.kIn hl
  rw [List.append_nil] at hbs
  refine wpAny_call (codeAny_mono (F.run X.A X.stack s H ⟨us, []⟩ us vs Q E0 hr hgd I.env0 hbs r h) fun res s' hq => ?_)
  cases res with
  | error e => exact (show False from hq).elim
  | ok fl => cases fl with
    | ret u => exact I.after hq
    | next => exact False.elim hq
    | brk => exact False.elim hq
    | cont => exact False.elim hq
theorem g_call (F : FnG X.prog X.w X.K X.mg X.base k f fd ps sp) (hr : Room k X.A) (hgd : X.A.guards = some []) (hg : Gl X x) (hm : X.mg x = some (.ref f)) (hk : PySem.W.keepIn X.K (.ref f) = true) (hb : L2.Binds X.K fd ps [])
    (ha : PA X (e :: es) t) (hdb : (x == ("__debug__" : Str)) = false) (he : starEach (e :: es) X.env = (false, eval e X.env) :: starEach es X.env) (hpl : (backTo pos (starEach es X.env)).any (·.1) = false) :
    PE X (.Call (.Name x p) (e :: es) [] pos) (fun σ H Q => t σ H fun vs H1 => sp vs H1 Q E0) :=
  ⟨fun pins s σ H Q I h => wpAny_Call_Name_kw (ld_glob I hg hm (PySem.W.callWith_K (h₀ := X.base) I.ok.mod.kin hk (thn (ha.run pos pins s σ H _ I h) fun us s1 ⟨vs, H1, I1, r, q⟩ => ⟨I1.kIn, g_run F hr hgd hb I1 r q⟩) he hpl) hdb)⟩
theorem g_call0 (F : FnG X.prog X.w X.K X.mg X.base k f fd ps sp) (hr : Room k X.A) (hgd : X.A.guards = some []) (hg : Gl X x) (hm : X.mg x = some (.ref f)) (hk : PySem.W.keepIn X.K (.ref f) = true) (hb : L2.Binds X.K fd ps [])
    (hdb : (x == ("__debug__" : Str)) = false) : PE X (.Call (.Name x p) [] [] pos) (fun σ H Q => sp [] H Q E0) :=
  ⟨fun pins s σ H Q I h => wpAny_Call_Name_kw (ld_glob I hg hm (PySem.W.callWith_K0 I.kIn hk (g_run F hr hgd hb I .nil h)) hdb)⟩
theorem RVc.rvr {K : PySem.W.Frag} {F' H H' : Hp} {σ : St} {ρ' : Slots} {v : V} {r : RV} (h : RVc K H F' H' v r) (n : ∀ a, H a = none → ¬ Held ρ' σ a) : RVr K H F' H' σ ρ' v r := by
  cases r with
  | fz d => exact h
  | own ds => obtain ⟨a, e, h1, h2, h3⟩ := h; exact ⟨a, e, h1, h2, n a h3, h3⟩
/-- f(e, ..) by trees -/
theorem e_call {ws : WEs} {R : RunW} (pe : PE X e (fun σ H Q => rdAF X.K ws σ H fun vs H1 => spN X.K n R vs H1 Q E0)) (hn : ∀ ds Qt, R ds Qt → ds.length = n) :
    PE X e (rdE X.K fun ρ Q => ws ρ fun rs ρ1 => R (rs.map RV.d) fun r _ => Q r ρ1) :=
  pe.imp fun σ H Q ⟨F, ρ, Qt, s, hw, kk⟩ => ⟨F, ρ, _, s, hw, fun rs ρ1 vs F1 H1 q1 st1 s1 r1 => ⟨by rw [r1.length]; exact hn _ _ q1, F1, rs.map RV.d, _, s1.sub, r1, q1, fun r out v F' H' q e1 e2 e3 e4 rc => by
    have out' : ∀ a, Held ρ1 σ a → F' a = none := fun a ha => by
      obtain ⟨ds, ws, z, _⟩ := s1.heldSome ha
      cases h : F' a with
      | none => rfl
      | some o =>
        rcases e4 a (by rw [h]; simp) with q | q
        · exact absurd (s1.out a ha) q
        · rw [z] at q; cases q
    have st2 : Stp ρ1 F1 σ H1 ρ1 F' σ H' := .same e1 (fun a o h _ => e3 _ _ h) (fun a h => (e4 a h).elim .inl fun z => .inr (.inl z)) (fun a h => e3.free h)
    have s2 : SR X.K F' H' σ ρ1 := s1.ext e1 e2 (fun a o h _ => e3 _ _ h) out'
    exact kk _ _ _ _ _ q (st1.trans st2) s2 ((rc.rvr fun a h => s1.heldNe h).back fun a h => st1.dom a h)⟩⟩
theorem heldS_look {ρ : Slots} {i : Nat} {k : List D → Prop} (h : heldS ρ i k) : ∃ ds, k ds ∧ ∀ k' : List D → Prop, heldS ρ i k' ↔ k' ds := by
  unfold heldS at h ⊢
  cases e : ρ[i]? with
  | none => rw [e] at h; exact h.elim
  | some z =>
    rw [e] at h
    cases z with
    | un => exact h.elim
    | fz d => exact h.elim
    | own ds => exact ⟨ds, h, fun _ => Iff.rfl⟩
    | bor ds => exact ⟨ds, h, fun _ => Iff.rfl⟩
theorem upd_back {H : Hp} {a : Addr} {o u : HO} (h : H a = some o) : upd (upd H a u) a o = H := by
  funext b
  by_cases e : b = a
  · subst e; rw [upd_same, h]
  · rw [upd_ne e, upd_ne e]
theorem setH_held {ρ : Slots} {i : Nat} {ds : List D} {a : Addr} {σ : St} (h : Held (setH ρ i ds) σ a) : Held ρ σ a := by
  unfold setH at h
  split at h
  · rename_i es e
    obtain ⟨j, h⟩ := h
    by_cases ej : i = j
    · subst ej
      rcases h with ⟨z, z1, z2⟩ | ⟨z, z1, z2⟩
      · exact ⟨i, .inl ⟨es, e, z2⟩⟩
      · rw [get_set_self e] at z1; cases z1
    · rcases h with ⟨z, z1, z2⟩ | ⟨z, z1, z2⟩
      · rw [get_set_ne ej] at z1; exact ⟨j, .inl ⟨z, z1, z2⟩⟩
      · rw [get_set_ne ej] at z1; exact ⟨j, .inr ⟨z, z1, z2⟩⟩
  · rename_i es e
    obtain ⟨j, h⟩ := h
    by_cases ej : i = j
    · subst ej
      rcases h with ⟨z, z1, z2⟩ | ⟨z, z1, z2⟩
      · rw [get_set_self e] at z1; cases z1
      · exact ⟨i, .inr ⟨es, e, z2⟩⟩
    · rcases h with ⟨z, z1, z2⟩ | ⟨z, z1, z2⟩
      · rw [get_set_ne ej] at z1; exact ⟨j, .inl ⟨z, z1, z2⟩⟩
      · rw [get_set_ne ej] at z1; exact ⟨j, .inr ⟨z, z1, z2⟩⟩
  · exact h
/-- f(pen, e, ..) by trees: the slot's list is lent -/
theorem e_pcall {ws : WEs} {R : RunW} {i : Nat} (pe : PE X e (fun σ H Q => tCons (tVar i) (rdAF X.K ws) σ H fun vs H1 => spP X.K n R vs H1 Q E0)) (hn : ∀ ds Qt, R ds Qt → ds.length = n) :
    PE X e (rdE X.K fun ρ Q => heldS ρ i (fun _ => True) ∧ ws ρ fun rs ρ1 => heldS ρ1 i fun ds => R (.list ds :: rs.map RV.d) fun r out => Q r (setH ρ1 i out)) :=
  pe.imp fun σ H Q ⟨F, ρ, Qt, s, ⟨hh, hw⟩, kk⟩ => by
    obtain ⟨a, vs0, ds0, ho, hH, r0, _, _, _⟩ := s.write hh
    refine ⟨.ref a, ho, F, ρ, _, s, hw, fun rs ρ1 vs F1 H1 q1 st1 s1 r1 => ?_⟩
    have q0 := q1
    obtain ⟨a', ws', pd, ho', hH', rw', q1, ha, _⟩ := s1.write q1
    rw [ho] at ho'; cases ho'
    refine ⟨by rw [List.length_cons, r1.length, ← List.length_cons (a := PyData.list pd)]; exact hn _ _ q1, F1, a, ws', vs, pd, _, _, rfl, s1.sub, s1.out a ha, hH', rw', r1, q1, fun r out v F' H' q e1 e2 e3 e4 e5 lr rc => ?_⟩
    have out' : ∀ b, Held ρ1 σ b → F' b = none := fun b hb => by
      obtain ⟨ds, ws, z, _⟩ := s1.heldSome hb
      cases h : F' b with
      | none => rfl
      | some o =>
        rcases e4 b (by rw [h]; simp) with q | q
        · exact absurd (s1.out b hb) q
        · rw [z] at q; cases q
    obtain ⟨vo, g1, g2⟩ := lr
    have st2 : Stp ρ1 F1 σ H1 ρ1 F' σ (upd H' a (.lst ws')) := .same e1 (fun b o h n => by
        rw [upd_ne (fun e => n (by rw [e]; exact ha))]; exact e3 b o h fun e => n (by rw [e]; exact ha)) (fun b h => (e4 b h).elim .inl fun z => .inr (.inl z)) (fun b h => by
        by_cases e : b = a
        · subst e; rw [upd_same] at h; cases h
        · rw [upd_ne e] at h; exact e5 b h)
    have s2 : SR X.K F' (upd H' a (.lst ws')) σ ρ1 := s1.ext e1 (fun b o h => by
        rw [upd_ne (fun e => by subst e; rw [out' b ha] at h; cases h)]; exact e2 b o h) (fun b o h hb => by
        by_cases e : b = a
        · subst e; rw [upd_same, ← h, hH']
        · rw [upd_ne e]; exact e3 b o h e) out'
    obtain ⟨a2, _, _, ho2, _, _, _, _, up⟩ := s2.write q0
    rw [ho] at ho2; cases ho2
    obtain ⟨st3, s3⟩ := up vo out g2
    rw [upd_back g1] at st3 s3
    exact kk _ _ _ _ _ q ((st1.trans st2).trans st3) s3 ((rc.rvr fun b h hb => s1.heldNe h (setH_held hb)).back fun b h => st1.dom b h)
end
end TL
end
section
set_option maxHeartbeats 4000000
/-! TLS: the set of a list or a tuple of whole numbers, and what is sorted of it -/
namespace TL
open PySem PySem.Spec PyProof.Rows L2
section
variable {P : Program} {w : World} {A : Around} {E : Value → Shared → Prop} {s : Shared}
/-- an empty set, just made -/
abbrev set0 (w : World) : Obj := { cls := .type "set", dict := none, data := .set #[] 0 (.fresh 0 0 (!w.params.followText "set-order")) }
theorem call_set_ls {l : Addr} {items : Array Value} (ns : List Int) {Q : Value → Shared → Prop} (hh : A.handled = none) (hl : s.heap.IsList l items) (hit : IntsAre items.toList ns) (hb : ns.length + 1 < scanBound)
    (h : ∀ (h' : Heap) (tk c : Nat), SetR w h' s.heap.objs.size (fun j => decide (j ∈ ns)) c → c ≤ ns.length → (∀ b o, s.heap.get? b = some o → h'.get? b = some o) → Q (.ref s.heap.objs.size) { s with heap := h', toks := tk }) :
    wpAny (model P w) A (call (.type "set") [.ref l]) Q E s := by
  have len : items.size = ns.length := by have q := IntsAre.length hit; rwa [Array.length_toList] at q
  -- the call of a type: what is asked of it first
  obtain ⟨_, _, m0⟩ := F.called_set.mro
  have m1 := F.called_set.made
  have m2 := F.called_set.sub
  have m3 := F.called_set.notType
  have m4 := F.called_set.canCreate
  have m5 := F.typeCall_set_1 (.ref l)
  refine wpAny_call (codeAny_of_tree ?_)
  show wpAny _ _ (callAny (.type "set") _) _ _ _
  refine wpAny_pure ⟨Code.quiet_builtin _ (by decide +kernel), codeAny_builtin F.entry_type_call ?_⟩
  rw [Around.under_plain (weight_type_call_type "set" [.ref l] []) rfl]
  repeat (any_goals (first | assumption | wp_step))
  -- the empty set is there
  refine codeAny_mono (code_set_led1 (.ref l) (E := E) (Q₁ := fun obj s₁ => obj = .ref s.heap.objs.size ∧ s₁ = { s with heap := s.heap.push (set0 w) }) ⟨rfl, rfl⟩) fun r s₁ made => ?_
  rcases r with e | f
  · exact made
  rcases f with _ | _ | _ | obj
  iterate 3 exact made.elim
  obtain ⟨rfl, rfl⟩ := made
  have at0 : (s.heap.push (set0 w)).get? s.heap.objs.size = some (set0 w) := Heap.get?_push_size _ rfl
  have ty0 : Shared.TypeIs { s with heap := s.heap.push (set0 w) } (.ref s.heap.objs.size) "set" := ⟨_, at0, rfl⟩
  have n1 := F.called_set.init.lookup
  have n2 := F.called_set.init.bind (.ref s.heap.objs.size)
  repeat (any_goals (first | assumption | wp_step))
  let fin : Result → Shared → Prop := wants (fun r s₂ => r = .none ∧ ∃ h' tk c, s₂ = { s with heap := h', toks := tk } ∧ SetR w h' s.heap.objs.size (fun j => decide (j ∈ ns)) c ∧ c ≤ ns.length ∧ ∀ b o, s.heap.get? b = some o → h'.get? b = some o) E
  have run : codeAny (model P w) A.in1 (.call (.builtin "set.__init__") ⟨[.ref s.heap.objs.size, .ref l], []⟩) fin { s with heap := s.heap.push (set0 w) } := by
    refine codeAny_call_builtin F.called_set.init.plain F.entry_set_init (check_set_init_1 ty0 ?_)
    obtain ⟨⟨_, odict, _, oslots⟩, hol, hcl, nl, hdl⟩ := id hl
    simp only at hcl hdl
    subst hcl; subst hdl
    have hol' : (s.heap.push (set0 w)).get? l = some { cls := .type "list", dict := odict, data := .seq items nl, slots := oslots } := Heap.get?_push_of_some _ hol
    have hl1 : (s.heap.push (set0 w)).IsList l items := ⟨_, hol', rfl, nl, rfl⟩
    have f1 := F.sub_list_set
    have f2 := F.sub_list_frozenset
    have f3 : (Value.type "list" == Value.type "dict") = false := by decide
    have lt : l < s.heap.objs.size := Heap.lt_size hol
    have sz : (s.heap.push (set0 w)).objs.size = s.heap.objs.size + 1 := Heap.size_push ..
    have none3 : A.in1.in1.in1.handled = none := by simp [hh]
    unfold Builtin.«set.__init__» noKeywords Builtin.Frozenset.updateFrom
    generalize hp : pyIter = PI
    wp_walk
    subst hp
    refine wpAny_pyIter_list hl1 (wpAny_bind (wpAny_runValue ?_))
    have off : s.heap.objs.size ∉ [(s.heap.push (set0 w)).objs.size, l] := by
      rw [sz]
      intro m
      rcases List.mem_cons.mp m with e | e
      · exact Nat.ne_of_lt (Nat.lt_succ_self _) e
      · exact Nat.ne_of_gt lt (List.mem_singleton.mp e)
    have item : ∀ (i : Nat) (v : Value), items[i]? = some v → ∃ k t, ns[i]? = some k ∧ v = .int k t := fun i v hv => by
      have hi : i < ns.length := by rw [← len]; exact (Array.getElem?_eq_some_iff.mp hv).1
      obtain ⟨t, e⟩ := PyProof.Rows.IntsAre.int_at hit i v (by rw [Array.getElem?_toList]; exact hv)
      rw [List.getD_eq_getElem?_getD, List.getElem?_eq_getElem hi] at e
      exact ⟨ns[i], t, List.getElem?_eq_getElem hi, e⟩
    have far : l ≠ (s.heap.push (set0 w)).objs.size := by rw [sz]; exact Nat.ne_of_lt (Nat.lt_succ_of_lt lt)
    refine set_update_ints ((Walks.list none3 _ l far items).toS) s.heap.objs.size off ns len hb item (items.size - 0) 0 _ (by omega) (Nat.zero_le _)
      ⟨⟨_, Heap.get?_push_size _ rfl, rfl, rfl⟩, hl1.push _⟩ ⟨0, Nat.le_refl 0, setR_new_at (Heap.get?_push_of_some _ at0)⟩ fun s' c mv hc hS => ?_
    obtain ⟨h', g', d', tk', os'⟩ := s'
    have e1 : g' = s.gens := mv.gens
    have e2 : d' = s.drawn := mv.drawn
    have e3 : os' = s.os := mv.os
    subst e1; subst e2; subst e3
    show wpAny _ _ _ _ _ _
    refine wpAny_pure ?_
    show wpAny _ _ (ret Value.none) _ _ _
    rw [len] at hc
    refine wpAny_pure ⟨rfl, h', tk', c, rfl, hS, hc, fun b o e => ?_⟩
    have bl : b < s.heap.objs.size := Heap.lt_size e
    refine mv.heap b o (fun m => ?_) (Heap.get?_push_of_some _ (Heap.get?_push_of_some _ e))
    rcases List.mem_cons.mp m with q | q
    · exact Nat.ne_of_lt bl q
    · have q := List.mem_singleton.mp q
      rw [sz] at q
      exact Nat.ne_of_lt (Nat.lt_succ_of_lt bl) q
  refine codeAny_mono run fun r s₂ done => ?_
  rcases r with e | f
  · exact done
  rcases f with _ | _ | _ | v
  iterate 3 exact done.elim
  obtain ⟨rfl, h', tk, c, rfl, hS, hc, keep⟩ := done
  repeat (any_goals (first | assumption | wp_step))
  exact h _ _ _ hS hc keep
end
end TL
end
section
set_option maxHeartbeats 1000000
/-! TLT: calls of two built-ins at once: sorted(set(x)), tuple(range(x)) -/
namespace TL
open PySem PySem.Spec PyProof.Rows L2
section
variable {X : Cx}
def rSetI (K : PySem.W.Frag) (w : World) : List V → Hp → VK → Prop := fun xs H Q => ∃ (p : Addr) (ns : List Int), xs = [.ref p] ∧ (SqL K H p (ns.map V.int) ∨ SqT K H p (ns.map V.int)) ∧ ns.length < 64 ∧ ∀ q c, H q = none → c ≤ ns.length → Q (.ref q) (upd H q (SetO w q (fun j => decide (j ∈ ns)) c))
theorem cr_setI (hc : X.calm = true) : CallR X (.type "set") (rSetI X.K X.w) := by
  rintro pins s σ H _ us Q I rx ⟨p, ns, rfl, hs, h64, q⟩
  obtain ⟨u, rfl, ru⟩ := vals1 rx
  cases ru
  have bnd : ns.length + 1 < scanBound := by unfold scanBound; omega
  rcases hs with hs | hs
  · obtain ⟨its, rv, pl, hz⟩ := I.list hs
    refine call_set_ls ns (I.ok.hd hc) pl.isList (by simpa using ints_of_vals rv) bnd fun h' tk c R hcn k => ?_
    exact ⟨.ref _, upd H s.heap.objs.size (SetO X.w s.heap.objs.size (fun j => decide (j ∈ ns)) c), I.laid (t' := tk) k (Nat.le_refl _) (setO_new R), rfl, q _ _ (I.hok.fresh (Nat.le_refl _)) hcn⟩
  · obtain ⟨its, rv, pt, hz⟩ := I.tuple hs
    refine call_set_tupI ns (I.ok.hd hc) (show s.heap.IsTuple p its.toArray from pt) (by simpa using ints_of_vals rv) bnd fun h' tk c R hcn k => ?_
    exact ⟨.ref _, upd H s.heap.objs.size (SetO X.w s.heap.objs.size (fun j => decide (j ∈ ns)) c), I.laid (t' := tk) k (Nat.le_refl _) (setO_new R), rfl, q _ _ (I.hok.fresh (Nat.le_refl _)) hcn⟩
/-- a thing that is made and let go -/
theorem SR.junk {K : PySem.W.Frag} {F H : Hp} {σ : St} {ρ : Slots} {p : Addr} {o : HO} (s : SR K F H σ ρ) (n : H p = none) : Stp ρ F σ H ρ F σ (upd H p o) ∧ SR K F (upd H p o) σ ρ := by
  have e2 : Same H (upd H p o) := same_upd' n
  exact ⟨.same (fun _ _ h => h) (fun a o h _ => e2 _ _ h) (fun a ha => .inl ha) (fun a ha => e2.free ha), s.ext (fun _ _ h => h) (fun a o ha => e2 _ _ (s.sub _ _ ha)) (fun a o ha _ => e2 _ _ ha) s.out⟩
theorem tuple_ints {F H : Hp} {x : V} {ds : List D} (sm : Same F H) (hx : RdD X.K F H x (.tuple ds)) (h : ds.all isInt = true) : ∃ a, x = .ref a ∧ SqT X.K H a ((ds.map intOf).map V.int) := by
  obtain ⟨a, vs, rfl, h1, r, _⟩ := hx.tuple sm
  rw [ints_of h] at r
  rw [r.ints] at h1
  exact ⟨a, rfl, h1⟩
theorem e_sortset {e : Expr} {wa : WO} (pe : PE X e (tCB (rSortedSet X.w) (tCons (tCB (rSetI X.K X.w) (tCons (rdO X.K wa) tNil)) tNil))) : PE X e (rdE X.K fun ρ Q => wa ρ fun oa ρ1 => lk ρ1 oa fun x => wpB1 .sortset x fun r => Q r ρ1) :=
  pe.imp fun σ H Q ⟨F, ρ, Qt, s, hw, k⟩ => ⟨F, ρ, _, s, hw, fun oa ρ1 v1 F1 H1 q1 st1 s1 r1 => by
    obtain ⟨dx, hx, q⟩ := r1.look s1 q1
    obtain ⟨ns, a, hns, rfl, hs, h64, hq⟩ : ∃ (ns : List Int) (a : Addr), True ∧ v1 = .ref a ∧ (SqL X.K H1 a (ns.map V.int) ∨ SqT X.K H1 a (ns.map V.int)) ∧ ns.length < 64 ∧ ∀ ms : List Int, ms.Pairwise (· < ·) → (∀ k, k ∈ ms ↔ k ∈ ns) → Qt (.own (ms.map .int)) ρ1 := by
      cases dx <;> first | exact (show False from q).elim | skip
      · rename_i ds
        obtain ⟨h1, h2, h3⟩ := q
        obtain ⟨a, rfl, hs⟩ := list_ints s1.sub hx h1
        exact ⟨_, a, trivial, rfl, .inl hs, by rw [List.length_map]; exact h2, h3⟩
      · rename_i ds
        obtain ⟨h1, h2, h3⟩ := q
        obtain ⟨a, rfl, hs⟩ := tuple_ints s1.sub hx h1
        exact ⟨_, a, trivial, rfl, .inr hs, by rw [List.length_map]; exact h2, h3⟩
    refine ⟨a, ns, rfl, hs, h64, fun p c np hc => ⟨p, _, c, rfl, upd_same, by omega, fun out b hp hm hl nb => ?_⟩⟩
    obtain ⟨st2, s2⟩ := s1.junk (o := SetO X.w p (fun j => decide (j ∈ ns)) c) np
    obtain ⟨st3, s3, rv⟩ := Gives.step (.lst (K := X.K) (F := F1) nb (rps_ints out)) s2
    exact k _ _ _ _ _ (hq out hp fun k => by rw [hm k, decide_eq_true_eq]) ((st1.trans st2).trans st3) s3 (rv.back fun a h => (st1.trans st2).dom a h)⟩
theorem rgV_eq (n : Int) : rgV 0 n = (List.range n.toNat).map fun i => V.int (i : Nat) := by
  unfold rgV
  rw [Int.sub_zero]
  refine List.map_congr_left fun i _ => ?_
  rw [Int.zero_add]
theorem e_tuprng {e : Expr} {wa : WO} (pe : PE X e (tTupRg (tRg1 (rdO X.K wa)))) : PE X e (rdE X.K fun ρ Q => wa ρ fun oa ρ1 => lk ρ1 oa fun x => wpB1 .tuprng x fun r => Q r ρ1) :=
  pe.imp fun σ H Q ⟨F, ρ, Qt, s, hw, k⟩ => ⟨F, ρ, _, s, hw, fun oa ρ1 v1 F1 H1 q1 st1 s1 r1 => by
    obtain ⟨dx, hx, q⟩ := r1.look s1 q1
    cases dx <;> first | exact (show False from q).elim | skip
    rename_i n
    cases hx.int
    obtain ⟨n0, n1, q⟩ := q
    refine ⟨n, rfl, RgOk.of_le (by omega) (by omega) (by omega) n0, fun p np => ?_⟩
    rw [rgV_eq]
    have r := rps_ints (K := X.K) (F := F1) ((List.range n.toNat).map fun i : Nat => (i : Int))
    rw [List.map_map, List.map_map] at r
    obtain ⟨st3, s3, rv⟩ := Gives.step (.tup (K := X.K) (F := F1) np r) s1
    exact k _ _ _ _ _ q (st1.trans st3) s3 (rv.back fun a h => st1.dom a h)⟩
end
end TL
end
section
set_option autoImplicit false
set_option maxHeartbeats 2000000
/-! TLD: dict(list(enumerate(x))) -/
namespace TZ
open PySem PySem.Spec PyProof.Rows L2
section
variable {prog : Program} {w : World} {A : Around} {E : Value → Shared → Prop} {s : Shared}
theorem wpAny_lia {a : Addr} {Q : Option Obj → Shared → Prop} (h : Q (s.heap.get? a) s) : wpAny (model prog w) A (loadIfAlive a) Q E s := fun Γ p hΓ => by
  show Sem.wp _ _ (Sem.loadIfAlive a _) _ _ _ _
  rw [Sem.wp_loadIfAlive]
  exact h
/-- an enumerate whose first tuple was handed out and is still there -/
def EnO (h : Heap) (e it : Addr) (c : Int) : Prop := ∃ (a : Addr) (b : Bool) (x : Value), h.get? e = some { cls := .type "enumerate", dict := none, data := .fields #[rawInt a, .bool b, .ref it, rawInt c, .none, x], slots := #[] } ∧ (∃ o, h.get? a = some o) ∧ a ≠ e ∧ a ≠ it
theorem enum_next_out {e it : Addr} {fp : List Addr} {n i : Nat} {c : Int} {P : Nat → Value → Prop} {St : Nat → Heap → Prop} {Q : Value → Shared → Prop}
    (D : Draws prog w A it fp n P St) (he : EnO s.heap e it c) (hst : St i s.heap) (hlt : i < n) (hne : e ≠ it) (hef : e ∉ fp)
    (hQ : ∀ x h' tk, P i x → EnO h' e it (c + 1) → St (i + 1) h' →
      h'.get? s.heap.objs.size = some { cls := .type "tuple", data := .seq #[.int c tk, x] } → h'.objs.size = s.heap.objs.size + 1 →
      (∀ b o, b ≠ e → b ≠ it → s.heap.get? b = some o → h'.get? b = some o) → Q (.ref s.heap.objs.size) { s with heap := h', toks := tk + 1 }) :
    wpAny (model prog w) A (Builtin.«enumerate.__next__» ⟨[.ref e], []⟩) (fun fin s' => ∃ v, fin = .done (.ret v) ∧ Q v s') E s := by
  obtain ⟨hp, g, d, tk₀, os⟩ := s
  obtain ⟨a, fl, x0, he, ⟨o1, ho0⟩, hae, hai⟩ := he
  show wpAny _ _ (field (.ref e) 2 >>= _) _ _ _
  refine wpAny_bind (wpAny_field he rfl (x := .ref it) rfl ?_)
  refine wpAny_bind (D.item i _ _ _ hlt hst fun x h1 tk hPx st1 k1 => ?_)
  replace k1 : Heap.SameBut it hp h1 := k1
  have e1 := (k1.2 e hne).trans he
  have ho1 : h1.get? a = some o1 := k1.extBut a o1 hai ho0
  show wpAny _ _ (field (.ref e) 3 >>= _) _ _ ⟨h1, g, d, tk, os⟩
  refine wpAny_bind (wpAny_field e1 rfl (x := rawInt c) rfl ?_)
  show wpAny _ _ (field (.ref e) 4 >>= _) _ _ ⟨h1, g, d, tk, os⟩
  refine wpAny_bind (wpAny_field e1 rfl (x := .none) rfl ?_)
  show wpAny _ _ (mkInt c >>= _) _ _ ⟨h1, g, d, tk, os⟩
  refine wpAny_bind (wpAny_mkInt ?_)
  show wpAny _ _ (setField (.ref e) 3 (rawInt (c + 1)) >>= _) _ _ ⟨h1, g, d, tk + 1, os⟩
  refine wpAny_bind (wpAny_setField_rec e1 (by simp) fun h2 e2 k2 => ?_)
  replace k2 : Heap.SameBut e h1 h2 := k2
  show wpAny _ _ (setField (.ref e) 4 .none >>= _) _ _ ⟨h2, g, d, tk + 1, os⟩
  refine wpAny_bind (wpAny_setField_rec e2 (by simp) fun h3 e3 k3 => ?_)
  replace k3 : Heap.SameBut e h2 h3 := k3
  have ho3 : h3.get? a = some o1 := (k3.2 a hae).trans ((k2.2 a hae).trans ho1)
  show wpAny _ _ (newTuple [.int c tk, x] >>= _) _ _ ⟨h3, g, d, tk + 1, os⟩
  refine wpAny_bind (wpAny_newTuple ?_)
  have sz : h3.objs.size = hp.objs.size := by rw [k3.1, k2.1, k1.1]
  have el : e < hp.objs.size := Heap.lt_size he
  have e4 : (h3.push { cls := .type "tuple", data := .seq #[.int c tk, x] }).get? e = some { cls := .type "enumerate", dict := none, data := .fields #[rawInt a, .bool fl, .ref it, rawInt (c + 1), .none, x0], slots := #[] } := Heap.get?_push_of_some _ e3
  have ho4 : (h3.push { cls := .type "tuple", data := .seq #[.int c tk, x] }).get? a = some o1 := Heap.get?_push_of_some _ ho3
  have t4 : (h3.push { cls := .type "tuple", data := .seq #[.int c tk, x] }).get? hp.objs.size = some { cls := .type "tuple", data := .seq #[.int c tk, x] } := by rw [← sz]; exact Heap.get?_push_size _ rfl
  have z4 : (h3.push { cls := .type "tuple", data := .seq #[.int c tk, x] }).objs.size = hp.objs.size + 1 := by rw [Heap.size_push, sz]
  have k4 : ∀ b o, b ≠ e → b ≠ it → hp.get? b = some o → (h3.push { cls := .type "tuple", data := .seq #[.int c tk, x] }).get? b = some o := fun b o hbe hbi hb =>
    Heap.get?_push_of_some _ (k3.extBut b o hbe (k2.extBut b o hbe (k1.extBut b o hbi hb)))
  have st4 : St (i + 1) (h3.push { cls := .type "tuple", data := .seq #[.int c tk, x] }) := D.frame _ _ _ st1 fun b hb o y => by
    have hbe : b ≠ e := fun q => hef (q ▸ hb)
    exact Heap.get?_push_of_some _ (k3.extBut b o hbe (k2.extBut b o hbe y))
  generalize h3.push { cls := .type "tuple", data := .seq #[.int c tk, x] } = h4 at *
  show wpAny _ _ (Builtin.SmallTypes.ownedTupleIsFree (.ref e) >>= _) _ _ ⟨h4, g, d, tk + 1, os⟩
  rw [sz]
  refine wpAny_bind ?_
  unfold Builtin.SmallTypes.ownedTupleIsFree
  refine wpAny_bind (wpAny_field e4 rfl (x := rawInt a) rfl ?_)
  show wpAny _ _ (loadIfAlive ((a : Nat) : Int).toNat >>= _) _ _ _
  rw [Int.toNat_natCast]
  refine wpAny_bind (wpAny_lia ?_)
  show wpAny _ _ (if (h4.get? a).isNone = true then _ else _) _ _ _
  rw [ho4, if_neg (by simp)]
  refine wpAny_bind (wpAny_field e4 rfl (x := .bool fl) rfl ?_)
  cases fl with
  | true =>
    rw [if_neg (by decide)]
    refine wpAny_pure ?_
    show wpAny _ _ (ret (Value.ref hp.objs.size)) _ _ _
    exact wpAny_pure ⟨_, rfl, hQ x h4 tk hPx ⟨a, true, x0, e4, ⟨o1, ho4⟩, hae, hai⟩ st4 t4 z4 k4⟩
  | false =>
    rw [if_pos (by decide)]
    refine wpAny_bind (wpAny_setField_rec e4 (by simp) fun h5 e5 k5 => ?_)
    replace k5 : Heap.SameBut e h4 h5 := k5
    refine wpAny_pure ?_
    show wpAny _ _ (ret (Value.ref hp.objs.size)) _ _ _
    refine wpAny_pure ⟨_, rfl, hQ x h5 tk hPx ⟨a, true, x0, e5, ⟨o1, k5.extBut a o1 hae ho4⟩, hae, hai⟩ (D.frame _ _ _ st4 fun b hb o y => k5.extBut b o (fun q => hef (q ▸ hb)) y) (k5.extBut _ _ (Nat.ne_of_gt el) t4) (by rw [k5.1, z4]) fun b o hbe hbi hb => k5.extBut b o hbe (k4 b o hbe hbi hb)⟩
theorem next_out {e it : Addr} {fp : List Addr} {n i : Nat} {c : Int} {P : Nat → Value → Prop} {St : Nat → Heap → Prop} {Q : Option Value → Shared → Prop}
    (D : Draws prog w A.in1 it fp n P St) (he : EnO s.heap e it c) (hst : St i s.heap) (hlt : i < n) (hne : e ≠ it) (hef : e ∉ fp)
    (hQ : ∀ x h' tk, P i x → EnO h' e it (c + 1) → St (i + 1) h' →
      h'.get? s.heap.objs.size = some { cls := .type "tuple", data := .seq #[.int c tk, x] } → h'.objs.size = s.heap.objs.size + 1 →
      (∀ b o, b ≠ e → b ≠ it → s.heap.get? b = some o → h'.get? b = some o) → Q (some (.ref s.heap.objs.size)) { s with heap := h', toks := tk + 1 }) :
    wpAny (model prog w) A (pyNext (.ref e)) Q E s := by
  have hT : s.TypeIs (.ref e) "enumerate" := by obtain ⟨_, _, _, he, _⟩ := he; exact ⟨_, he, rfl⟩
  unfold pyNext
  exact wpAny_bind (wpAny_attempt (wpAny_callSpecial?_slot (name := Str.ofString "__next__") hT F.slot_enumerate_next
    (wpAny_call_entry F.slot_enumerate_next hT F.entry_enumerate_next
      (enum_next_out D he hst hlt hne hef fun x h' tk a b c d k q => wpAny_pure (hQ x h' tk a b c d k q)) (F.args_enumerate_next_1 _))))
theorem next_out_end {e it : Addr} {fp : List Addr} {n : Nat} {P : Nat → Value → Prop} {St : Nat → Heap → Prop} {i : Int} {Q : Option Value → Shared → Prop}
    (D : Draws prog w A.in1 it fp n P St) (he : EnO s.heap e it i) (hst : St n s.heap)
    (hQ : ∀ h', Heap.ExtBut it s.heap h' → Q none { s with heap := h' }) : wpAny (model prog w) A (pyNext (.ref e)) Q E s := by
  obtain ⟨_, _, _, he, _⟩ := he
  have hT : s.TypeIs (.ref e) "enumerate" := ⟨_, he, rfl⟩
  unfold pyNext
  refine wpAny_bind (wpAny_attempt (wpAny_callSpecial?_slot (name := Str.ofString "__next__") hT F.slot_enumerate_next
    (wpAny_call_entry F.slot_enumerate_next hT F.entry_enumerate_next ?_ (F.args_enumerate_next_1 _))))
  show wpAny _ _ (field (.ref e) 2 >>= _) _ _ _
  refine wpAny_bind (wpAny_field he rfl (x := .ref it) rfl ?_)
  refine wpAny_bind (D.done _ _ _ hst fun h' x he' hx' => ?_)
  obtain ⟨o, ho, hc⟩ := hx'
  refine wpAny_bind (wpAny_isInstance (T := "StopIteration") (b := true) ⟨o, ho, hc⟩ isSubtype_stop ?_)
  exact wpAny_pure (hQ _ he')
end
section
variable {X : Cx} {pins : List (Addr × Obj)} {σ : L2.St} {A : Around}
/-- what the list has behind so many turns -/
def Got (H : Hp) (xs : List V) (ps : List Addr) : Prop := ∀ (j : Nat) (p : Addr) (x : V), ps[j]? = some p → xs[j]? = some x → H p = some (.tup [.int (j : Nat), x])
theorem sqB_mono {K : PySem.W.Frag} {F H : Hp} {t : Bool} {a : Addr} {xs : List V} (e : Same F H) (h : SqB K t F a xs) : SqB K t H a xs := by
  cases t with
  | true => exact TL.sqT_mono e h
  | false =>
    rcases h with h | h
    · exact .inl (TL.rd_mono e h)
    · exact .inr h
theorem ext_enum (hh : A.handled = none) {t : Bool} {a e it S : Addr} {xs : List V} (hai : a ≠ it) (hae : a ≠ e) (hne : e ≠ it) (res : Value) (hln : xs.length ≤ 1000) {H0 : Hp} (hq0 : SqB X.K t H0 a xs) (hS0 : H0 S = none) {R : Result → Shared → Prop} :
    ∀ (k i : Nat) (s : Shared) (H : Hp) (ps : List Addr), xs.length - i = k → i ≤ xs.length → Inv X pins σ H s → Same H0 H → FpOk X pins H e → FpOk X pins H it →
      ((i = 0 ∧ ∃ old, IsEnum s.heap e it 0 old) ∨ EnO s.heap e it (i : Nat)) → ItS t it a i s.heap → H S = some (.lst (ps.map V.ref)) → ps.length = i → Got H xs ps →
      (∀ s' H' ps', Inv X pins σ H' s' → H' S = some (.lst (ps'.map V.ref)) → ps'.length = xs.length → Got H' xs ps' → Same H0 H' → R (.ok (.ret res)) s') →
      codeAny (model X.prog X.w) A (.builtin "list.extend.loop" ⟨[.ref S, .ref e, res], []⟩) R s := by
  have h1 : A.in1.in1.handled = none := by simp [hh]
  intro k
  induction k with
  | zero =>
    intro i s H ps hk hi I s0 fe fi hst hit hS hps hg hR
    have hq := sqB_mono s0 hq0
    have hin : i = xs.length := by omega
    obtain ⟨its, rv, p⟩ := rdB I hq
    have hl := rv.length
    have ei : i = its.toArray.size := by simp; omega
    refine codeAny_builtin F.entry_extend_loop ?_
    rw [Around.under_plainId F.plain_extend_loop _]
    show wpAny _ A.in1 (pyNext (.ref e) >>= _) _ _ s
    refine wpAny_bind ?_
    have fin : ∀ h', Heap.ExtBut it s.heap h' → R (.ok (.ret res)) { s with heap := h' } := fun h' eb => by
      obtain ⟨f0, f1, f2, f3, f4, f5⟩ := fi
      exact hR _ H ps (I.turned (t' := s.toks) (fun b o hb q => eb b o hb q) f0 f1 f3 f4 f5) hS (by omega) hg s0
    subst ei
    rcases hst with ⟨_, old, he⟩ | he
    · exact wpAny_pyNext_enum_endD (drawB t h1 hai) he ⟨hit, p⟩ fun h' eb => wpAny_pure (fin h' eb)
    · exact next_out_end (drawB t h1 hai) he ⟨hit, p⟩ fun h' eb => wpAny_pure (fin h' eb)
  | succ k ih =>
    intro i s H ps hk hi I s0 fe fi hst hit hS hps hg hR
    have hq := sqB_mono s0 hq0
    have hlt' : i < xs.length := by omega
    obtain ⟨its, rv, p⟩ := rdB I hq
    have hl := rv.length
    have hlt : i < its.toArray.size := by simp; omega
    obtain ⟨x, hx⟩ : ∃ x, xs[i]? = some x := ⟨xs[i], List.getElem?_eq_getElem hlt'⟩
    obtain ⟨u, hu, ru⟩ := rv.get hx
    have hel : e < s.heap.objs.size := by
      rcases hst with ⟨_, old, he⟩ | ⟨_, _, _, he, _⟩
      · exact Heap.lt_size he
      · exact Heap.lt_size he
    have hil : it < s.heap.objs.size := by obtain ⟨_, q, _⟩ := hit.obj; exact Heap.lt_size q
    have hef : e ∉ [it, a] := by simp; exact ⟨hne, Ne.symm hae⟩
    refine codeAny_builtin F.entry_extend_loop ?_
    rw [Around.under_plainId F.plain_extend_loop _]
    show wpAny _ A.in1 (pyNext (.ref e) >>= _) _ _ s
    refine wpAny_bind ?_
    have step : ∀ (u' : Value) (h' : Heap) (tk : Tok), its.toArray[i]? = some u' → EnO h' e it ((i : Int) + 1) → ItS t it a (i + 1) h' → h'.get? s.heap.objs.size = some { cls := .type "tuple", data := .seq #[.int i tk, u'] } →
        (∀ b o, b ≠ e → b ≠ it → s.heap.get? b = some o → h'.get? b = some o) →
        wpAny (model X.prog X.w) A.in1 (updateSeq S (·.push (.ref s.heap.objs.size)) >>= fun _ => again (.builtin "list.extend.loop" ⟨[.ref S, .ref e, res], []⟩))
          (fun fin s' => match fin with | .done f => R (.ok f) s' | .again c' => c'.quiet = true ∧ codeAny (model X.prog X.w) A c' R s') (fun er s' => R (.error er) s') { s with heap := h', toks := tk + 1 } := fun u' h' tk hP ho hit' hT hk' => by
      have eu : u' = u := by
        have z : its.toArray[i]? = some u := by simpa using hu
        rw [z] at hP; cases hP; rfl
      subst eu
      have new : ObjOk X.prog X.w (upd H s.heap.objs.size (.tup [.int (i : Nat), x])) h' s.heap.objs.size (.tup [.int (i : Nat), x]) :=
        ⟨by show 2 ≤ sizeLine; decide, [.int i tk, u'], .cons ⟨_, rfl⟩ (.cons ru .nil), ⟨_, hT, rfl, _, rfl⟩⟩
      have ff : ∀ b ∈ [e, it], FpOk X pins H b := fun b hb => by
        have e' : b = e ∨ b = it := by simpa using hb
        rcases e' with z | z
        · rw [z]; exact fe
        · rw [z]; exact fi
      have I1 : Inv X pins σ (upd H s.heap.objs.size (.tup [.int (i : Nat), x])) { s with heap := h', toks := tk + 1 } :=
        I.turnedNew (ch := [e, it]) (fun b ob hb q => hk' b ob (fun z => hb (by simp [z])) (fun z => hb (by simp [z])) q) ff (Nat.le_refl _) new
      have nT : H s.heap.objs.size = none := I.hok.fresh (Nat.le_refl _)
      have sT : S ≠ s.heap.objs.size := fun z => by rw [z, nT] at hS; cases hS
      have hS1 : upd H s.heap.objs.size (.tup [.int (i : Nat), x]) S = some (.lst (ps.map V.ref)) := by rw [upd_ne sT]; exact hS
      obtain ⟨hz, vs, n, vr, vl, hget⟩ := I1.lstM hS1
      have psl : (ps.map V.ref).length = i := by rw [List.length_map]; exact hps
      have vsz : vs.length = i := by omega
      have hv2 : Vals ((ps ++ [s.heap.objs.size]).map V.ref) (vs ++ [.ref s.heap.objs.size]) := by
        rw [List.map_append]; exact vr.append (.cons rfl .nil)
      have z2 : ((ps ++ [s.heap.objs.size]).map V.ref).length ≤ sizeLine := by rw [List.length_map, List.length_append, List.length_singleton, hps, sizeLine_eq]; omega
      have I2 := I1.lset (t' := tk + 1) (its' := vs ++ [.ref s.heap.objs.size]) (f := fun z => z.push (.ref s.heap.objs.size)) hS1 hget (by simp) hv2 z2
      refine wpAny_bind (wpAny_updateSeq hget rfl ?_ (by rw [List.size_toArray, sizeLine_eq]; omega) (by rw [Array.size_push, List.size_toArray, sizeLine_eq]; omega))
      have ne1 : ∀ b o, H b = some o → b ≠ s.heap.objs.size := fun b o q z => by rw [z, nT] at q; cases q
      have up : Same H0 (upd (upd H s.heap.objs.size (.tup [.int (i : Nat), x])) S (.lst ((ps ++ [s.heap.objs.size]).map V.ref))) := fun b o q => by
        rw [upd_ne (fun z => by rw [z, hS0] at q; cases q), upd_ne (ne1 b o (s0 b o q))]; exact s0 b o q
      have fN : ∀ {b : Addr}, b < s.heap.objs.size → FpOk X pins H b → FpOk X pins (upd (upd H s.heap.objs.size (.tup [.int (i : Nat), x])) S (.lst ((ps ++ [s.heap.objs.size]).map V.ref))) b := fun {b} hb f =>
        ⟨by rw [upd_ne (fun z => by have g := f.1; rw [z, hS] at g; cases g), upd_ne (Nat.ne_of_lt hb)]; exact f.1, f.2⟩
      have eS : ∀ {b : Addr}, FpOk X pins H b → b ≠ S := fun f z => by have g := f.1; rw [z, hS] at g; cases g
      have lu : ∀ b o, b ≠ S → h'.get? b = some o → (h'.update S (Obj.mapSeq fun z => z.push (.ref s.heap.objs.size))).get? b = some o := fun b o hb q => (Heap.get?_update_other _ _ (Ne.symm hb)).trans q
      refine wpAny_pure ⟨plainId_quiet F.plain_extend_loop _, ih (i + 1) _ _ (ps ++ [s.heap.objs.size]) (by omega) (by omega) I2 up (fN hel fe) (fN hil fi) (.inr ?_) (hit'.to fun o q => lu _ _ (eS fi) q) upd_same (by rw [List.length_append, hps]; rfl) (fun j pj y hj hy => ?_) hR⟩
      · obtain ⟨a', b', x', g1, ⟨o', g2⟩, g3, g4⟩ := ho
        have e1 : ((i + 1 : Nat) : Int) = (i : Int) + 1 := by omega
        rw [e1]
        refine ⟨a', b', x', lu _ _ (eS fe) g1, ?_, g3, g4⟩
        by_cases z : a' = S
        · subst z
          exact ⟨_, Heap.get?_update_self _ hget rfl⟩
        · exact ⟨o', lu _ _ z g2⟩
      · rw [List.getElem?_append] at hj
        split at hj
        · have q := hg j pj y hj hy
          rw [upd_ne (fun z => by rw [z, hS] at q; cases q), upd_ne (ne1 _ _ q)]; exact q
        · rename_i hjl
          have ej : j = i := by
            have := (List.getElem?_eq_some_iff.mp hj).1
            rw [List.length_singleton] at this
            omega
          subst ej
          rw [hps, Nat.sub_self] at hj
          cases hj
          rw [hx] at hy; cases hy
          rw [upd_ne (Ne.symm sT), upd_same]
    rcases hst with ⟨i0, old, he⟩ | he
    · subst i0
      refine wpAny_pyNext_enum_itemC (drawB t h1 hai) he ⟨hit, p⟩ hlt hne hef fun u' h' tk hP ho hit' hT hsz hk' => ?_
      exact step u' h' tk hP ⟨s.heap.objs.size, false, u', ho, ⟨_, hT⟩, Nat.ne_of_gt hel, Nat.ne_of_gt hil⟩ hit'.1 hT hk'
    · exact next_out (drawB t h1 hai) he ⟨hit, p⟩ hlt hne hef fun u' h' tk hP ho hit' hT hsz hk' => step u' h' tk hP ho hit'.1 hT hk'
/-- list(e), e an enumerate just made -/
theorem enum_no_len : typeLookup (.type "enumerate") "__len__" = pure none := by rw [typeLookup_type, builtinLookup_eq_fast]; kernel_rfl
theorem enum_no_hint : typeLookup (.type "enumerate") "__length_hint__" = pure none := by rw [typeLookup_type, builtinLookup_eq_fast]; kernel_rfl
theorem call_list_enum {s : Shared} {H : Hp} {E : Value → Shared → Prop} (hh : A.handled = none) {t : Bool} {a e it : Addr} {xs : List V} (hai : a ≠ it) (hae : a ≠ e) (hne : e ≠ it) (hln : xs.length ≤ 1000) (I : Inv X pins σ H s) (hq : SqB X.K t H a xs) (fe : FpOk X pins H e) (fi : FpOk X pins H it)
    {old : Value} (he : IsEnum s.heap e it 0 old) (hit : ItS t it a 0 s.heap) {Q : Value → Shared → Prop}
    (hQ : ∀ s' H' S ps, Inv X pins σ H' s' → H' S = some (.lst (ps.map V.ref)) → ps.length = xs.length → Got H' xs ps → Same H H' → Q (.ref S) s') :
    wpAny (model X.prog X.w) A (call (.type "list") [.ref e]) Q E s := by
  have hel : e < s.heap.objs.size := Heap.lt_size he
  refine callType_codes (Q₁ := fun obj s₁ => obj = .ref s.heap.objs.size ∧ s₁ = { s with heap := s.heap.push { cls := .type "list", data := .seq #[] } }) F.called_list (F.typeCall_list_1 _) F.entry_list_init (code_list_new _ ⟨rfl, rfl⟩) ?_
  rintro obj s₁ ⟨rfl, rfl⟩
  have hS : (s.heap.push { cls := .type "list", data := .seq #[] }).get? s.heap.objs.size = some { cls := .type "list", data := .seq #[] } := Heap.get?_push_size _ rfl
  have k0 : ∀ b o, s.heap.get? b = some o → (s.heap.push { cls := .type "list", data := .seq #[] }).get? b = some o := fun b o q => Heap.get?_push_of_some _ q
  have bS : ∀ b o, s.heap.get? b = some o → b ≠ s.heap.objs.size := fun b o q => Nat.ne_of_lt (Heap.lt_size q)
  refine ⟨⟨_, hS, rfl⟩, F.args_list_init_2 _ _, ?_⟩
  generalize s.heap.push { cls := .type "list", data := .seq #[] } = h0 at *
  show wpAny _ _ (do let old ← Builtin.List.listItems (.ref s.heap.objs.size); Builtin.List.listUpdate (.ref s.heap.objs.size) (fun _ => #[]); letGo old.toList.reverse; Builtin.List.listExtendWith (.ref s.heap.objs.size) (.ref e) .none) _ _ _
  refine wpAny_bind ?_
  unfold Builtin.List.listItems
  refine wpAny_bind (wpAny_seqItems hS rfl (wpAny_pure ?_))
  show wpAny _ _ (updateSeq s.heap.objs.size (fun _ => #[]) >>= fun _ => letGo (#[] : Array Value).toList.reverse >>= fun _ => Builtin.List.listExtendWith (.ref s.heap.objs.size) (.ref e) .none) _ _ _
  refine wpAny_bind (wpAny_updateSeq hS rfl ?_)
  have hS1 := Heap.get?_update_self (Obj.mapSeq (fun _ => (#[] : Array Value))) hS rfl
  have k1 : ∀ b o, s.heap.get? b = some o → (h0.update s.heap.objs.size (Obj.mapSeq (fun _ => (#[] : Array Value)))).get? b = some o :=
    fun b o q => (Heap.get?_update_other _ _ (Ne.symm (bS b o q))).trans (k0 b o q)
  refine wpAny_bind (wpAny_letGo ?_)
  generalize h0.update s.heap.objs.size (Obj.mapSeq (fun _ => (#[] : Array Value))) = h1 at *
  have hT : Shared.TypeIs { s with heap := h1 } (.ref e) "enumerate" := ⟨_, k1 _ _ he, rfl⟩
  unfold Builtin.List.listExtendWith
  refine wpAny_bind (wpAny_typeOf hT ?_)
  have q1 : Builtin.List.listSameRef (.ref s.heap.objs.size) (.ref e) = false := by simp [Builtin.List.listSameRef, Nat.ne_of_gt hel]
  have q2 : (Value.type "enumerate" == Value.type "list") = false := by decide
  have q3 : (Value.type "enumerate" == Value.type "tuple") = false := by decide
  simp only [q1, q2, q3, Bool.or_false, Bool.false_eq_true, if_false]
  refine wpAny_bind (wpAny_pyIter_enum (k1 _ _ he) ?_)
  refine wpAny_bind (wpAny_holding ?_)
  unfold Builtin.List.listLengthHint
  refine wpAny_bind (wpAny_specialOf hT enum_no_len ?_)
  show wpAny _ _ (specialOf (Value.ref e) (Str.ofString "__length_hint__") >>= _) _ _ _
  refine wpAny_bind (wpAny_specialOf hT enum_no_hint ?_)
  refine wpAny_pure ?_
  show wpAny _ _ (rule "list.extend.makes-room" >>= fun _ => Builtin.List.listTouch (.ref s.heap.objs.size) >>= fun _ =>
    again (.builtin "list.extend.loop" ⟨[.ref s.heap.objs.size, .ref e, .none], []⟩)) _ _ _
  refine wpAny_bind (wpAny_rule ?_)
  refine wpAny_bind ?_
  show wpAny _ _ (updateSeq s.heap.objs.size (·.push .none) >>= fun _ => updateSeq s.heap.objs.size (·.pop)) _ _ _
  refine wpAny_bind (wpAny_updateSeq hS1 rfl ?_)
  have hS2 := Heap.get?_update_self (Obj.mapSeq (·.push Value.none)) hS1 rfl
  have k2 : ∀ b o, s.heap.get? b = some o → (h1.update s.heap.objs.size (Obj.mapSeq (·.push Value.none))).get? b = some o :=
    fun b o q => (Heap.get?_update_other _ _ (Ne.symm (bS b o q))).trans (k1 b o q)
  refine wpAny_updateSeq (hz := by seq_fits) hS2 rfl ?_
  have hS3 := Heap.get?_update_self (Obj.mapSeq (·.pop)) hS2 rfl
  have k3 : ∀ b o, s.heap.get? b = some o → ((h1.update s.heap.objs.size (Obj.mapSeq (·.push Value.none))).update s.heap.objs.size (Obj.mapSeq (·.pop))).get? b = some o :=
    fun b o q => (Heap.get?_update_other _ _ (Ne.symm (bS b o q))).trans (k2 b o q)
  generalize (h1.update s.heap.objs.size (Obj.mapSeq (·.push Value.none))).update s.heap.objs.size (Obj.mapSeq (·.pop)) = h3 at *
  have nS : H s.heap.objs.size = none := I.hok.fresh (Nat.le_refl _)
  have I3 : Inv X pins σ (upd H s.heap.objs.size (.lst [])) { s with heap := h3 } :=
    I.laid (t' := s.toks) k3 (Nat.le_refl _) ⟨by show 0 ≤ sizeLine; omega, [], _, .nil, hS3⟩
  have s3 : Same H (upd H s.heap.objs.size (.lst [])) := fun b o q => by rw [upd_ne (fun z => by rw [z, nS] at q; cases q)]; exact q
  have f3 : ∀ {b : Addr}, b ≠ s.heap.objs.size → FpOk X pins H b → FpOk X pins (upd H s.heap.objs.size (.lst [])) b := fun hb f => ⟨by rw [upd_ne hb]; exact f.1, f.2⟩
  have hil : it ≠ s.heap.objs.size := by obtain ⟨_, q, _⟩ := hit.obj; exact Nat.ne_of_lt (Heap.lt_size q)
  refine wpAny_pure ⟨plainId_quiet F.plain_extend_loop _, ext_enum (by simp [hh]) hai hae hne .none hln hq nS xs.length 0 _ _ [] (by omega) (by omega) I3 s3 (f3 (Nat.ne_of_lt hel) fe) (f3 hil fi) (.inl ⟨rfl, old, k3 _ _ he⟩) (hit.to fun o q => k3 _ o q) upd_same rfl (fun j p x e => by cases e) fun s' H' ps' I' a1 a2 a3 a4 => ⟨rfl, hQ s' H' _ ps' I' a1 a2 a3 a4⟩⟩
end
section
variable {X : Cx} {e : Expr} {ta : TA} {p pos p2 pos2 : Pos}
theorem pen {pins : List (Addr × Obj)} {s : Shared} {σ : L2.St} {H : Hp} {C : Hp → Addr → List V → Prop} {R : Value → Shared → Prop} (hg : Gl X "enumerate") (hm : X.mg "enumerate" = none) (ha : PA X [e] ta) (hs : starEach [e] X.env = (false, eval e X.env) :: starEach [] X.env)
    (I : Inv X pins σ H s) (h : ta σ H fun vs H1 => ∃ a xs t, vs = [.ref a] ∧ SqB X.K t H1 a xs ∧ C H1 a xs)
    (k : ∀ (H1 : Hp) (a : Addr) (xs : List V) (t : Bool) (en it : Addr) (old : Value) (s' : Shared), SqB X.K t H1 a xs → C H1 a xs → Inv X pins σ H1 s' → IsEnum s'.heap en it 0 old → ItS t it a 0 s'.heap → FpOk X pins H1 en → FpOk X pins H1 it → a ≠ it → a ≠ en → en ≠ it → R (.ref en) s') :
    wpAny (model X.prog X.w) X.A (eval (.Call (.Name "enumerate" p) [e] [] pos) X.env) R X.xe s := by
  refine Call_ (ld_blt I hg hm boot_enumerate (PyProof.Rows.callWith_type1 (thn (ha.run pos pins s σ H _ I h) fun us s1 ⟨vs, H1, I1, r1, q1⟩ => ?_) hs rfl))
  obtain ⟨a, xs, t, ex, hq, q⟩ := q1
  subst ex
  cases r1 with
  | cons r rr =>
    cases rr
    cases r
    obtain ⟨its, rv, p'⟩ := rdB I1 hq
    refine begins_enum (beginsB t a _) p' fun h' he hit hsz hk => ?_
    have I2 : Inv X pins σ H1 { s1 with heap := h' } := I1.kept (t' := s1.toks) hk
    have la := p'.lt
    exact k H1 a xs t _ _ .none _ hq q I2 he (itO_at hit) (I1.fpOk (Nat.le_succ _) (I1.hok.fresh (Nat.le_succ _))) (I1.fpOk (Nat.le_refl _) (I1.hok.fresh (Nat.le_refl _))) (Nat.ne_of_lt la) (Nat.ne_of_lt (Nat.lt_succ_of_lt la)) (Nat.succ_ne_self _)
def tLE (K : PySem.W.Frag) (ta : TA) : TE := fun σ H Q => ta σ H fun vs H1 => ∃ a xs t, vs = [.ref a] ∧ SqB K t H1 a xs ∧ (xs.length ≤ 1000 ∧ ∀ S ps H', H' S = some (.lst (ps.map V.ref)) → ps.length = xs.length → Got H' xs ps → Same H1 H' → Q (.ref S) H')
theorem pe_listEnum (hc : X.calm = true) (hl : Gl X "list") (hlm : X.mg "list" = none) (hg : Gl X "enumerate") (hm : X.mg "enumerate" = none) (ha : PA X [e] ta) (hs : starEach [e] X.env = (false, eval e X.env) :: starEach [] X.env)
    (na : starEach [.Call (.Name "enumerate" p) [e] [] pos] X.env = (false, eval (.Call (.Name "enumerate" p) [e] [] pos) X.env) :: starEach [] X.env) :
    PE X (.Call (.Name "list" p2) [.Call (.Name "enumerate" p) [e] [] pos] [] pos2) (tLE X.K ta) := by
  refine ⟨fun pins s σ H Q I h => ?_⟩
  have h : ta σ H fun vs H1 => ∃ a xs t, vs = [.ref a] ∧ SqB X.K t H1 a xs ∧ (fun (H1 : Hp) (_ : Addr) (xs : List V) => xs.length ≤ 1000 ∧ ∀ S ps H', H' S = some (.lst (ps.map V.ref)) → ps.length = xs.length → Got H' xs ps → Same H1 H' → Q (.ref S) H') H1 a xs := h
  refine Call_ (ld_blt I hl hlm boot_list (PyProof.Rows.callWith_type1 (args_cons (pen (C := fun (H1 : Hp) (_ : Addr) (xs : List V) => xs.length ≤ 1000 ∧ ∀ S ps H', H' S = some (.lst (ps.map V.ref)) → ps.length = xs.length → Got H' xs ps → Same H1 H' → Q (.ref S) H') hg hm ha hs I h fun H1 a xs t en it old s' hq q I1 he hit fe fi n1 n2 n3 => args_nil ?_) na) na))
  refine call_list_enum (I1.ok.hd hc) n1 n2 n3 q.1 I1 hq fe fi he hit fun s2 H2 S ps I2 a1 a2 a3 a4 => ?_
  exact ⟨.ref S, H2, I2, rfl, q.2 S ps H2 a1 a2 a3 a4⟩
end
end TZ
end
section
set_option autoImplicit false
set_option maxHeartbeats 1000000
/-! TLE: dict(list(enumerate(x))), by trees -/
namespace TL
open PySem PySem.Spec PyProof.Rows L2
def kk : Nat → Nat → List Key
  | _, 0 => []
  | j, n + 1 => .inl (j : Nat) :: kk (j + 1) n
theorem kk_len : ∀ (n j : Nat), (kk j n).length = n
  | 0, _ => rfl
  | n + 1, j => by rw [kk, List.length_cons, kk_len n (j + 1)]
theorem kk_D : ∀ (n j : Nat), (kk j n).map kD = numsD j n
  | 0, _ => rfl
  | n + 1, j => by rw [kk, numsD, List.map_cons, kk_D n (j + 1)]; rfl
theorem merge_kk : ∀ (n j : Nat) (vs : List V) (acc : List (Key × V)), (∀ kv ∈ acc, ∃ i : Nat, kv.1 = .inl (i : Int) ∧ i < j) → mergeK acc ((kk j n).zip vs) = acc ++ (kk j n).zip vs
  | 0, j, vs, acc, _ => by simp [kk, mergeK]
  | n + 1, j, [], acc, _ => by simp [mergeK]
  | n + 1, j, v :: vs, acc, h => by
    rw [kk, List.zip_cons_cons]
    have e : putK acc (Sum.inl ((j : Nat) : Int) : Key) v = acc ++ [(.inl (j : Nat), v)] := by
      unfold putK
      rw [if_neg]
      rw [List.any_eq_true]
      rintro ⟨kv, m, q⟩
      obtain ⟨i, e1, e2⟩ := h kv m
      rw [e1, decide_eq_true_eq] at q
      have q := Sum.inl.inj q
      omega
    show mergeK (putK acc _ v) _ = _
    rw [e, merge_kk n (j + 1) vs _ fun kv m => ?_, List.append_assoc]; rfl
    rcases List.mem_append.mp m with m | m
    · obtain ⟨i, e1, e2⟩ := h kv m
      exact ⟨i, e1, by omega⟩
    · rw [List.mem_singleton] at m; subst m
      exact ⟨j, rfl, by omega⟩
section
variable {X : Cx}
theorem paired_of {K : PySem.W.Frag} {H : Hp} : ∀ (n j : Nat) (ps : List Addr) (xs : List V), ps.length = n → xs.length = n → (∀ i p x, ps[i]? = some p → xs[i]? = some x → H p = some (.tup [.int ((j + i : Nat) : Int), x])) →
    Paired (fun (p : Addr) (kv : Key × V) => SqT K H p [kV kv.1, kv.2]) ps ((kk j n).zip xs)
  | 0, j, [], xs, _, _, _ => by simp [kk]; exact .nil
  | n + 1, j, p :: ps, x :: xs, h1, h2, g => by
    rw [kk, List.zip_cons_cons]
    refine .cons ?_ (paired_of n (j + 1) ps xs (by simpa using h1) (by simpa using h2) fun i q y e1 e2 => ?_)
    · exact SqT.of (g 0 p x rfl rfl)
    · have := g (i + 1) q y (by simpa using e1) (by simpa using e2)
      rw [show j + 1 + i = j + (i + 1) by omega]; exact this
theorem SR.junkS {K : PySem.W.Frag} {F H H' : Hp} {σ : St} {ρ : Slots} (s : SR K F H σ ρ) (e2 : Same H H') : Stp ρ F σ H ρ F σ H' ∧ SR K F H' σ ρ :=
  ⟨.same (fun _ _ h => h) (fun a o h _ => e2 _ _ h) (fun a ha => .inl ha) (fun a ha => e2.free ha), s.ext (fun _ _ h => h) (fun a o ha => e2 _ _ (s.sub _ _ ha)) (fun a o ha _ => e2 _ _ ha) s.out⟩
def rDP (K : PySem.W.Frag) : List V → Hp → VK → Prop := fun xs H Q => ∃ (a : Addr) (ps : List Addr) (kvs : List (Key × V)), xs = [.ref a] ∧ SqL K H a (ps.map V.ref) ∧ Paired (fun p kv => SqT K H p [kV kv.1, kv.2]) ps kvs ∧ ∀ p, H p = none → Q (.ref p) (upd H p (.dK (mergeK [] kvs)))
theorem e_dctenum {e : Expr} {wa : WO} (pe : PE X e (tCB (rDP X.K) (tCons (TZ.tLE X.K (tCons (rdO X.K wa) tNil)) tNil))) : PE X e (rdE X.K fun ρ Q => wa ρ fun oa ρ1 => lk ρ1 oa fun x => wpB1 .dctenum x fun r => Q r ρ1) :=
  pe.imp fun σ H Q ⟨F, ρ, Qt, s, hw, k⟩ => ⟨F, ρ, _, s, hw, fun oa ρ1 v1 F1 H1 q1 st1 s1 r1 => by
    obtain ⟨dx, hx, q⟩ := r1.look s1 q1
    obtain ⟨a, vs, ds, t, rfl, hsq, hr, hl, hq⟩ : ∃ (a : Addr) (vs : List V) (ds : List D) (t : Bool), v1 = .ref a ∧ TZ.SqB X.K t H1 a vs ∧ Rps X.K F1 vs ds ∧ ds.length ≤ 1000 ∧ Qt (.fz (.dict ((numsD 0 ds.length).zip ds))) ρ1 := by
      cases dx <;> first | exact (show False from q).elim | skip
      · obtain ⟨a, vs, rfl, h, r⟩ := hx.list s1.sub
        exact ⟨a, vs, _, false, rfl, h.sq, r, q.1, q.2⟩
      · obtain ⟨a, vs, rfl, h, r, pa⟩ := hx.tuple s1.sub
        exact ⟨a, vs, _, true, rfl, h, r, q.1, q.2⟩
    have vl := hr.length
    refine ⟨a, vs, t, rfl, hsq, by omega, fun S ps H' hS hps hg hsame => ?_⟩
    refine ⟨S, ps, (kk 0 vs.length).zip vs, rfl, .inl (.inl hS), paired_of vs.length 0 ps vs hps rfl (fun i p x e1 e2 => by rw [Nat.zero_add]; exact hg i p x e1 e2), fun p np => ?_⟩
    rw [merge_kk vs.length 0 vs [] (fun kv m => by cases m), List.nil_append]
    obtain ⟨st2, s2⟩ := s1.junkS hsame
    obtain ⟨st3, s3, rv⟩ := Gives.step (.dct (K := X.K) (F := F1) (ks := kk 0 vs.length) np (kk_len _ _) hr) s2
    rw [kk_D] at rv
    rw [← vl] at hq
    exact k _ _ _ _ _ hq ((st1.trans st2).trans st3) s3 (rv.back fun a h => (st1.trans st2).dom a h)⟩
end
end TL
end
section
set_option autoImplicit false
set_option maxHeartbeats 1000000
/-! TL8: stores, targets, what is walked, comprehensions -/
namespace TL
open PySem PySem.Spec PyProof.Rows L2

section
variable {K : PySem.W.Frag} {F F' H H' H0 F0 : Hp} {σ σ' σ0 : St} {ρ ρ' ρ0 : Slots} {v : V} {r : RV} {i : Nat}
/-! ### a value is stored at a slot -/
theorem canSet_lt (c : canSet ρ i) : ∃ z, ρ[i]? = some z ∧ ∀ ds, z ≠ .bor ds := by
  unfold canSet at c
  cases e : ρ[i]? with
  | none => rw [e] at c; exact c.elim
  | some z =>
    rw [e] at c
    exact ⟨z, rfl, fun ds h => by subst h; exact c⟩
theorem SR.store (st : Stp ρ0 F0 σ0 H0 ρ F σ H) (s : SR K F H σ ρ) (c : canSet ρ i) (h : RVr K H0 F H σ ρ v r) :
    Stp ρ0 F0 σ0 H0 (ρ.set i r.sl) F (σ.set i (some v)) H ∧ SR K F H (σ.set i (some v)) (ρ.set i r.sl) := by
  obtain ⟨z, hz, nb⟩ := canSet_lt c
  obtain ⟨o, ho, _⟩ := slot_at s hz
  have bor : ∀ j b, BorL (ρ.set i r.sl) (σ.set i (some v)) j b ↔ BorL ρ σ j b := fun j b => by
    by_cases e : i = j
    · subst e
      constructor
      · rintro ⟨ds, z1, _⟩
        rw [get_set_self hz] at z1
        cases r <;> cases z1
      · rintro ⟨ds, z1, _⟩
        rw [hz] at z1; cases z1
        exact absurd rfl (nb ds)
    · unfold BorL; rw [get_set_ne e, get_set_ne e]
  have own : ∀ j b, OwnL (ρ.set i r.sl) (σ.set i (some v)) j b → OwnL ρ σ j b ∧ i ≠ j ∨ (i = j ∧ v = .ref b ∧ F b = none ∧ ¬ Held ρ σ b ∧ H0 b = none) := fun j b => by
    rintro ⟨ds, z1, z2⟩
    by_cases e : i = j
    · subst e
      rw [get_set_self hz] at z1
      rw [get_set_self ho] at z2
      cases z2
      cases r with
      | fz d => cases z1
      | own es =>
        obtain ⟨a, e1, _, h2, h3, h4⟩ := h
        cases e1
        exact .inr ⟨rfl, rfl, h2, h3, h4⟩
    · rw [get_set_ne e] at z1 z2
      exact .inl ⟨⟨ds, z1, z2⟩, e⟩
  refine ⟨⟨st.fr, st.kp, st.nw, fun b ⟨j, hb⟩ => ?_, fun j b => (bor j b).trans (st.bo j b), st.dom⟩, ?_⟩
  · rcases own j b hb with ⟨h, _⟩ | ⟨_, _, _, _, h4⟩
    · exact st.ow b ⟨j, h⟩
    · exact .inl h4
  · refine ⟨by rw [List.length_set, List.length_set]; exact s.len, s.sub, fun j x o' z1 z2 => ?_, fun j l b z1 z2 => ?_, fun b hb => ?_⟩
    · by_cases e : i = j
      · subst e
        rw [get_set_self hz] at z1; rw [get_set_self ho] at z2
        cases z1; cases z2
        cases r with
        | fz d => exact ⟨v, rfl, h⟩
        | own ds => obtain ⟨a, e1, h1, _⟩ := h; exact ⟨a, by rw [e1], h1⟩
      · rw [get_set_ne e] at z1 z2
        exact s.slot j x o' z1 z2
    · rw [bor] at z1 z2
      have old : ∀ m, i ≠ m → (OwnL (ρ.set i r.sl) (σ.set i (some v)) m b ∨ BorL ρ σ m b) → (OwnL ρ σ m b ∨ BorL ρ σ m b) := fun m e h => by
        rcases h with h | h
        · rcases own m b h with ⟨h, _⟩ | ⟨e', _⟩
          · exact .inl h
          · exact absurd e' e
        · exact .inr h
      by_cases e1 : i = j
      · by_cases e2 : i = l
        · exact e1.symm.trans e2
        · exfalso
          subst e1
          have hl := old l e2 z2
          rcases z1 with z1 | z1
          · rcases own i b z1 with ⟨_, q⟩ | ⟨_, _, _, nh, _⟩
            · exact q rfl
            · exact nh ⟨l, hl⟩
          · exact e2 (s.uniq i l b (.inr z1) hl)
      · have hj := old j e1 z1
        by_cases e2 : i = l
        · exfalso
          subst e2
          rcases z2 with z2 | z2
          · rcases own i b z2 with ⟨_, q⟩ | ⟨_, _, _, nh, _⟩
            · exact q rfl
            · exact nh ⟨j, hj⟩
          · exact e1 (s.uniq j i b hj (.inr z2)).symm
        · exact s.uniq j l b hj (old l e2 z2)
    · obtain ⟨j, hb⟩ := hb
      rw [bor] at hb
      rcases hb with hb | hb
      · rcases own j b hb with ⟨h, _⟩ | ⟨_, _, h2, _⟩
        · exact s.out b ⟨j, .inl h⟩
        · exact h2
      · exact s.out b ⟨j, .inr hb⟩

/-! ### targets -/
mutual
def tgS : TG → List Nat
  | .var i => [i]
  | .tup ts => tgsS ts
def tgsS : TGs → List Nat
  | .nil => []
  | .cons t ts => tgS t ++ tgsS ts
end
/-- the slots but these are as they were -/
def Kept (vs : List Nat) (σ σ' : St) : Prop := σ'.length = σ.length ∧ ∀ j : Nat, j ∉ vs → σ'[j]? = σ[j]?
def rdG (K : PySem.W.Frag) (t : TG) : L2.TG := fun v σ H Q => ∃ ρ0 F0 σ0 H0 F ρ r Qt, Stp ρ0 F0 σ0 H0 ρ F σ H ∧ SR K F H σ ρ ∧ RVr K H0 F H σ ρ v r ∧ wpTG t r ρ Qt ∧
  ∀ σ' ρ', Qt ρ' → Stp ρ0 F0 σ0 H0 ρ' F σ' H → SR K F H σ' ρ' → Kept (tgS t) σ σ' → Q σ' H
def rdGs (K : PySem.W.Frag) (ts : TGs) : L2.TGs := fun vs σ H Q => ∃ ρ0 F0 σ0 H0 F ρ ds Qt, Stp ρ0 F0 σ0 H0 ρ F σ H ∧ SR K F H σ ρ ∧ Rps K F vs ds ∧ wpTGs ts ds ρ Qt ∧
  ∀ σ' ρ', Qt ρ' → Stp ρ0 F0 σ0 H0 ρ' F σ' H → SR K F H σ' ρ' → Kept (tgsS ts) σ σ' → Q σ' H
end
section
variable {X : Cx}
theorem _root_.L2.PG.imp {e : Expr} {t t' : L2.TG} (h : PG X e t) (i : ∀ v σ H Q, t' v σ H Q → t v σ H Q) : PG X e t' :=
  ⟨fun pins s σ H v u Q I r q => h.run pins s σ H v u Q I r (i v σ H Q q)⟩
theorem _root_.L2.PGs.imp {e : List Expr} {t t' : L2.TGs} (h : PGs X e t) (i : ∀ v σ H Q, t' v σ H Q → t v σ H Q) : PGs X e t' :=
  ⟨fun pins s σ H v u Q I r q => h.run pins s σ H v u Q I r (i v σ H Q q)⟩
theorem g_var {i : Nat} {x : Str} {pos : Pos} (hN : X.N.Nodup) (hi : X.N[i]? = some x) (hx : Loc X.env.scope x) (hf : X.fn x = true ∨ X.env.scope.names.lookup x = some .local) : PG X (.Name x pos) (rdG X.K (.var i)) :=
  (pg_name hN hi hx hf).imp fun v σ H Q ⟨ρ0, F0, σ0, H0, F, ρ, r, Qt, st, s, h, ⟨c, q⟩, k⟩ => by
    obtain ⟨st', s'⟩ := s.store st c h
    exact k _ _ q st' s' ⟨by rw [List.length_set], fun j hj => get_set_ne fun e => hj (by rw [tgS]; exact List.mem_singleton.mpr e.symm)⟩
theorem g_nil : PGs X [] (rdGs X.K .nil) := pgs_nil.imp fun v σ H Q ⟨ρ0, F0, σ0, H0, F, ρ, ds, Qt, st, s, h, ⟨e, q⟩, k⟩ => by
  subst e; cases h
  exact ⟨rfl, k _ _ q st s ⟨rfl, fun _ _ => rfl⟩⟩
theorem g_cons {e : Expr} {es : List Expr} {t : TG} {ts : TGs} (h1 : PG X e (rdG X.K t)) (h2 : PGs X es (rdGs X.K ts)) (hs : (assignEach (e :: es) X.env).map (·.2) = assign e X.env :: (assignEach es X.env).map (·.2)) :
    PGs X (e :: es) (rdGs X.K (.cons t ts)) :=
  (pgs_cons h1 h2 hs).imp fun vs σ H Q ⟨ρ0, F0, σ0, H0, F, ρ, ds, Qt, st, s, h, q, k⟩ => by
    cases ds with
    | nil => exact (show False from q).elim
    | cons d ds =>
      cases h with
      | cons g gs =>
        exact ⟨_, _, rfl, ρ0, F0, σ0, H0, F, ρ, .fz d, _, st, s, g, q, fun σ1 ρ1 q1 st1 s1 k1 => ⟨ρ0, F0, σ0, H0, F, ρ1, ds, Qt, st1, s1, gs, q1, fun σ2 ρ2 q2 st2 s2 k2 => k _ _ q2 st2 s2 ⟨k2.1.trans k1.1, fun j hj => by
          rw [tgsS, List.mem_append] at hj
          exact (k2.2 j fun h => hj (.inr h)).trans (k1.2 j fun h => hj (.inl h))⟩⟩⟩
def tgLen : TGs → Nat
  | .nil => 0
  | .cons _ ts => tgLen ts + 1
mutual
theorem wpTG_go : ∀ (t : TG) {r : RV} {ρ : Slots} {k : Slots → Prop}, wpTG t r ρ k → ∃ ρ', k ρ'
  | .var i, _, _, _, h => ⟨_, h.2⟩
  | .tup ts, .own _, _, _, h => (show False from h).elim
  | .tup ts, .fz d, _, _, h => by
    cases d <;> first | exact (show False from h).elim | skip
    exact (wpTGs_go ts (show wpTGs ts _ _ _ from h)).1
theorem wpTGs_go : ∀ (ts : TGs) {ds : List D} {ρ : Slots} {k : Slots → Prop}, wpTGs ts ds ρ k → (∃ ρ', k ρ') ∧ ds.length = tgLen ts
  | .nil, _, _, _, h => ⟨⟨_, h.2⟩, by rw [h.1]; rfl⟩
  | .cons t ts, [], _, _, h => (show False from h).elim
  | .cons t ts, d :: ds, _, _, h => by
    obtain ⟨ρ', h'⟩ := wpTG_go t (show wpTG t _ _ _ from h)
    obtain ⟨h1, h2⟩ := wpTGs_go ts h'
    exact ⟨h1, congrArg (· + 1) h2⟩
end
theorem g_tup {es : List Expr} {k0 : Nat} {ts : TGs} {pos : Pos} (hc : X.calm = true) (h : PGs X es (rdGs X.K ts)) (hl : (assignEach es X.env).length = tgLen ts) (hst : (assignEach es X.env).findIdx? (·.1) = none) :
    PG X (.Tuple es k0 pos) (rdG X.K (.tup ts)) :=
  (pg_tup hc h rfl hst).imp fun v σ H Q ⟨ρ0, F0, σ0, H0, F, ρ, r, Qt, st, s, hv, q, k⟩ => by
    cases r with
    | own ds => exact (show False from q).elim
    | fz d =>
      cases d <;> first | exact (show False from q).elim | skip
      rename_i ds
      have q' : wpTGs ts ds ρ Qt := q
      cases hv with
      | tup ha r =>
        refine ⟨_, _, rfl, sqT_mono s.sub ha, ?_, ρ0, F0, σ0, H0, F, ρ, ds, Qt, st, s, r, q', k⟩
        rw [hl, r.length]
        exact (wpTGs_go ts q').2

/-! ### what is walked -/
structure Wk (K : PySem.W.Frag) (F : Hp) (J : It) (ds : List D) : Prop where
  go : ∀ i F1 H1, Same F F1 → Same F1 H1 → i < ds.length → J.go i H1
  stop : ∀ F1 H1, Same F F1 → Same F1 H1 → J.stop ds.length H1
  yld : ∀ i F1 H1 x H' d, Same F F1 → Same F1 H1 → ds[i]? = some d → J.yld i H1 x H' → ∃ F', Gives K F1 H1 x (.fz d) F' H'
abbrev WI := Slots → (List D → Slots → Prop) → Prop
def rdI (K : PySem.W.Frag) (w : WI) : TI := fun σ H R => ∃ F ρ Qt, SR K F H σ ρ ∧ w ρ Qt ∧ ∀ ds ρ' J F' H', Qt ds ρ' → Stp ρ F σ H ρ' F' σ H' → SR K F' H' σ ρ' → Wk K F' J ds → R J H'
section
variable {K : PySem.W.Frag} {F : Hp} {a : Addr} {vs : List V} {ds : List D}
theorem wk_list (h : LsL K F a vs) (r : Rps K F vs ds) : Wk K F (Itl K a) ds where
  go i F1 H1 e1 e2 hi := by
    obtain ⟨v, hv, _⟩ := r.get (List.getElem?_eq_getElem hi)
    exact ⟨vs, v, (sqL_mono e2 (sqL_mono e1 h)).sq, hv⟩
  stop F1 H1 e1 e2 := ⟨vs, (sqL_mono e2 (sqL_mono e1 h)).sq, by rw [r.length]; exact Nat.le_refl _⟩
  yld i F1 H1 x H' d e1 e2 hd hy := by
    obtain ⟨rfl, hx⟩ := hy
    obtain ⟨v, hv, rp⟩ := r.get hd
    have := hx vs ((sqL_mono e2 (sqL_mono e1 h)).sq)
    rw [hv] at this; cases this
    exact ⟨F1, .old (rp.mono e1)⟩
theorem wk_tup (h : SqT K F a vs) (r : Rps K F vs ds) : Wk K F (Itt K a) ds where
  go i F1 H1 e1 e2 hi := by
    obtain ⟨v, hv, _⟩ := r.get (List.getElem?_eq_getElem hi)
    exact ⟨vs, v, sqT_mono e2 (sqT_mono e1 h), hv⟩
  stop F1 H1 e1 e2 := ⟨vs, sqT_mono e2 (sqT_mono e1 h), by rw [r.length]; exact Nat.le_refl _⟩
  yld i F1 H1 x H' d e1 e2 hd hy := by
    obtain ⟨rfl, hx⟩ := hy
    obtain ⟨v, hv, rp⟩ := r.get hd
    have := hx vs (sqT_mono e2 (sqT_mono e1 h))
    rw [hv] at this; cases this
    exact ⟨F1, .old (rp.mono e1)⟩
theorem get_rev {α : Type} {l : List α} {i : Nat} (h : i < l.length) : l.reverse[i]? = l[l.length - 1 - i]? := List.getElem?_reverse h
theorem wk_rev (h : LsL K F a vs) (r : Rps K F vs ds) : Wk K F (Itv K a vs.length) ds.reverse where
  go i F1 H1 e1 e2 hi := by
    rw [List.length_reverse, ← r.length] at hi
    exact ⟨hi, vs, _, (sqL_mono e2 (sqL_mono e1 h)).sq, List.getElem?_eq_getElem (by omega)⟩
  stop F1 H1 e1 e2 := by
    show vs.length ≤ _
    rw [List.length_reverse, r.length]; exact Nat.le_refl _
  yld i F1 H1 x H' d e1 e2 hd hy := by
    obtain ⟨rfl, hx⟩ := hy
    have hi : i < ds.length := by have := (List.getElem?_eq_some_iff.mp hd).1; rwa [List.length_reverse] at this
    rw [get_rev hi, ← r.length] at hd
    obtain ⟨v, hv, rp⟩ := r.get hd
    have := hx vs ((sqL_mono e2 (sqL_mono e1 h)).sq)
    rw [hv] at this; cases this
    exact ⟨F1, .old (rp.mono e1)⟩
theorem wk_revT (h : SqT K F a vs) (r : Rps K F vs ds) : Wk K F (RT.ItvT K a vs.length) ds.reverse where
  go i F1 H1 e1 e2 hi := by
    rw [List.length_reverse, ← r.length] at hi
    exact ⟨hi, vs, _, sqT_mono e2 (sqT_mono e1 h), List.getElem?_eq_getElem (by omega)⟩
  stop F1 H1 e1 e2 := by
    show vs.length ≤ _
    rw [List.length_reverse, r.length]; exact Nat.le_refl _
  yld i F1 H1 x H' d e1 e2 hd hy := by
    obtain ⟨rfl, hx⟩ := hy
    have hi : i < ds.length := by have := (List.getElem?_eq_some_iff.mp hd).1; rwa [List.length_reverse] at this
    rw [get_rev hi, ← r.length] at hd
    obtain ⟨v, hv, rp⟩ := r.get hd
    have := hx vs (sqT_mono e2 (sqT_mono e1 h))
    rw [hv] at this; cases this
    exact ⟨F1, .old (rp.mono e1)⟩
theorem wk_rng (lo : Int) (hi : Int) : Wk K F (Itr lo (hi - lo).toNat) (rngD lo hi) where
  go i F1 H1 _ _ h := by
    show i < _
    simpa [rngD] using h
  stop F1 H1 _ _ := by
    show _ ≤ _
    simp [rngD]
  yld i F1 H1 x H' d _ _ hd hy := by
    obtain ⟨rfl, rfl⟩ := hy
    have hi' : i < (hi - lo).toNat := by have := (List.getElem?_eq_some_iff.mp hd).1; simpa [rngD] using this
    unfold rngD at hd
    rw [List.getElem?_map, List.getElem?_range hi'] at hd
    cases hd
    exact ⟨F1, .old (.int _)⟩
theorem wk_rngC (lo hi c : Int) : Wk K F (Itc lo c (Builtin.Range.rangeSize lo hi c).toNat) (rng3D lo hi c) where
  go i F1 H1 _ _ h := by
    show i < _
    simpa [rng3D] using h
  stop F1 H1 _ _ := by
    show _ ≤ _
    simp [rng3D]
  yld i F1 H1 x H' d _ _ hd hy := by
    obtain ⟨rfl, rfl⟩ := hy
    have hi' : i < (Builtin.Range.rangeSize lo hi c).toNat := by have := (List.getElem?_eq_some_iff.mp hd).1; simpa [rng3D] using this
    unfold rng3D at hd
    rw [List.getElem?_map, List.getElem?_range hi'] at hd
    cases hd
    exact ⟨F1, .old (.int _)⟩
theorem rangeSize_nn (i j c : Int) (h : c ≠ 0) : 0 ≤ Builtin.Range.rangeSize i j c := by
  unfold Builtin.Range.rangeSize
  split
  · split
    · have := Int.ediv_nonneg (a := j - i - 1) (b := c) (by omega) (by omega)
      omega
    · omega
  · split
    · have := Int.ediv_nonneg (a := i - j - 1) (b := -c) (by omega) (by omega)
      omega
    · omega
end
section
variable {X : Cx} {tg : Expr}
/-- a list or a tuple is walked -/
def iSeq (K : PySem.W.Frag) (tl : TE) : TI := fun σ H R => tl σ H fun x H1 => (∃ a xs, x = .ref a ∧ SqL K H1 a xs ∧ R (Itl K a) H1) ∨ (∃ a xs, x = .ref a ∧ SqT K H1 a xs ∧ R (Itt K a) H1)
theorem pi_seq {l : Expr} {tl : TE} (hl : PE X l tl) : PI X tg l (iSeq X.K tl) :=
  ⟨fun pins s σ H R I h => thn (hl.run pins s σ H _ I h) fun v s1 ⟨x, H1, I1, r1, q1⟩ => by
    have fp : ∀ b ∈ [s1.heap.objs.size], FpOk X pins H1 b := fun b hb => by
      rw [List.mem_singleton] at hb; subst hb
      exact I1.fpOk (Nat.le_refl _) (I1.hok.fresh (Nat.le_refl _))
    rcases q1 with ⟨a, xs, rfl, hq, q⟩ | ⟨a, xs, rfl, hq, q⟩
    · cases r1
      obtain ⟨its, rv, p, _⟩ := I1.list hq
      exact wpAny_pyIter_list p.isList ⟨_, _, _, _, H1, rfl, I1.kept (t' := s1.toks) fun b o e => Heap.get?_push_of_some _ e, turn_list a _, ⟨_, Heap.get?_push_size _ rfl, rfl, rfl⟩, fp, q⟩
    · cases r1
      obtain ⟨its, rv, p, _⟩ := I1.tuple hq
      exact wpAny_pyIter_tuple (show s1.heap.IsTuple a its.toArray from p) ⟨_, _, _, _, H1, rfl, I1.kept (t' := s1.toks) fun b o e => Heap.get?_push_of_some _ e, turn_tuple a _, ⟨_, Heap.get?_push_size _ rfl, rfl, rfl⟩, fp, q⟩⟩
theorem _root_.L2.PI.imp {e : Expr} {t t' : TI} (h : PI X tg e t) (i : ∀ σ H Q, t' σ H Q → t σ H Q) : PI X tg e t' :=
  ⟨fun pins s σ H R I q => h.run pins s σ H R I (i σ H R q)⟩
theorem itemsD_cases {K : PySem.W.Frag} {F : Hp} {x : V} {d : D} {k : List D → Prop} (h : Rp K F x d) (q : itemsD d k) :
    (∃ a vs ds, x = .ref a ∧ LsL K F a vs ∧ Rps K F vs ds ∧ k ds) ∨ (∃ a vs ds, x = .ref a ∧ SqT K F a vs ∧ Rps K F vs ds ∧ k ds) := by
  unfold itemsD at q
  split at q
  · cases h with
    | lst h r => exact .inl ⟨_, _, _, rfl, h, r, q⟩
  · cases h with
    | tup h r => exact .inr ⟨_, _, _, rfl, h, r, q⟩
  · exact q.elim
theorem i_of {e : Expr} {w : WE} (h : PE X e (rdE X.K w)) : PI X tg e (rdI X.K fun ρ Q => w ρ fun r ρ1 => itemsD r.d fun xs => Q xs ρ1) :=
  (pi_seq h.frz).imp fun σ H R ⟨F, ρ, Qt, s, hw, k⟩ => ⟨F, ρ, _, s, hw, fun r ρ1 v F1 H1 q1 st1 s1 rp => by
    rcases itemsD_cases rp q1 with ⟨a, vs, ds, rfl, h, r, q⟩ | ⟨a, vs, ds, rfl, h, r, q⟩
    · exact .inl ⟨a, vs, rfl, (sqL_mono s1.sub h).sq, k _ _ _ _ _ q st1 s1 (wk_list h r)⟩
    · exact .inr ⟨a, vs, rfl, sqT_mono s1.sub h, k _ _ _ _ _ q st1 s1 (wk_tup h r)⟩⟩
theorem i_rev {e : Expr} {w : WE} {p pos : Pos} (hg : Gl X "reversed") (hm : X.mg "reversed" = none) (h : PE X e (rdE X.K w)) (hs : starEach [e] X.env = (false, eval e X.env) :: starEach [] X.env) :
    PI X tg (.Call (.Name "reversed" p) [e] [] pos) (rdI X.K fun ρ Q => w ρ fun r ρ1 => itemsD r.d fun xs => Q xs.reverse ρ1) :=
  (RT.pi_revA hg hm h.frz hs).imp fun σ H R ⟨F, ρ, Qt, s, hw, k⟩ => ⟨F, ρ, _, s, hw, fun r ρ1 v F1 H1 q1 st1 s1 rp => by
    rcases itemsD_cases rp q1 with ⟨a, vs, ds, rfl, h, r, q⟩ | ⟨a, vs, ds, rfl, h, r, q⟩
    · exact ⟨a, vs, rfl, .inl ⟨(sqL_mono s1.sub h).sq, k _ _ _ _ _ q st1 s1 (wk_rev h r)⟩⟩
    · exact ⟨a, vs, rfl, .inr ⟨sqT_mono s1.sub h, k _ _ _ _ _ q st1 s1 (wk_revT h r)⟩⟩⟩
/-- a tuple (true) or a list, of the part that stands -/
def SqF (K : PySem.W.Frag) (t : Bool) (F : Hp) (a : Addr) (vs : List V) : Prop := match t with
  | true => SqT K F a vs
  | false => LsL K F a vs
theorem SqF.to {K : PySem.W.Frag} {t : Bool} {F F1 H1 : Hp} {a : Addr} {vs : List V} (h : SqF K t F a vs) (e : Same F F1) (e2 : Same F1 H1) : TZ.SqB K t H1 a vs := by
  cases t
  · exact (sqL_mono e2 (sqL_mono e h)).sq
  · exact sqT_mono e2 (sqT_mono e h)
theorem items_cases {K : PySem.W.Frag} {F : Hp} {x : V} {d : D} {k : List D → Prop} (h : Rp K F x d) (q : itemsD d k) : ∃ t a vs ds, x = .ref a ∧ SqF K t F a vs ∧ Rps K F vs ds ∧ k ds := by
  rcases itemsD_cases h q with ⟨a, vs, ds, e, h, r, q⟩ | ⟨a, vs, ds, e, h, r, q⟩
  · exact ⟨false, a, vs, ds, e, h, r, q⟩
  · exact ⟨true, a, vs, ds, e, h, r, q⟩
theorem enumD_len (ds : List D) : (enumD ds).length = ds.length := by unfold enumD; rw [List.length_map, List.length_zipIdx]
theorem wk_enum {K : PySem.W.Frag} {F : Hp} {a : Addr} {vs : List V} {ds : List D} {t : Bool} (h : SqF K t F a vs) (r : Rps K F vs ds) : Wk K F (TZ.IteB K t a) (enumD ds) where
  go i F1 H1 e1 e2 hi := by
    rw [enumD_len] at hi
    obtain ⟨v, hv, _⟩ := r.get (List.getElem?_eq_getElem hi)
    exact ⟨vs, v, h.to e1 e2, hv⟩
  stop F1 H1 e1 e2 := ⟨vs, h.to e1 e2, by rw [enumD_len, r.length]⟩
  yld i F1 H1 x H' d e1 e2 hd hy := by
    obtain ⟨T, x1, rfl, nT, rfl, f1⟩ := hy
    unfold enumD at hd
    rw [List.getElem?_map, List.getElem?_zipIdx, Nat.zero_add, Option.map_map] at hd
    obtain ⟨dx, hx, e⟩ := Option.map_eq_some_iff.mp hd
    obtain ⟨v, hv, rp⟩ := r.get hx
    have := f1 vs (h.to e1 e2)
    rw [hv] at this; cases this
    subst e
    exact ⟨_, .tup nT (.cons (.int _) (.cons (rp.mono e1) .nil))⟩
theorem i_enum {e : Expr} {w : WE} {p pos tpos : Pos} {elts : List Expr} {kk : Nat} (hg : Gl X "enumerate") (hm : X.mg "enumerate" = none) (h : PE X e (rdE X.K w)) (hs : starEach [e] X.env = (false, eval e X.env) :: starEach [] X.env) :
    PI X (.Tuple elts kk tpos) (.Call (.Name "enumerate" p) [e] [] pos) (rdI X.K fun ρ Q => w ρ fun r ρ1 => itemsD r.d fun xs => Q (enumD xs) ρ1) :=
  (TZ.pi_enumB hg hm (pa_cons h.frz pa_nil hs) hs).imp fun σ H R ⟨F, ρ, Qt, s, hw, k⟩ => ⟨F, ρ, _, s, hw, fun r ρ1 v F1 H1 q1 st1 s1 rp => by
    obtain ⟨t, a, vs, ds, rfl, h, r, q⟩ := items_cases rp q1
    exact ⟨a, vs, t, rfl, h.to (fun _ _ h => h) s1.sub, k _ _ _ _ _ q st1 s1 (wk_enum h r)⟩⟩
theorem pairs_get {xs ys : List D} {i : Nat} {d : D} (h : (pairs xs ys)[i]? = some d) : ∃ x y, xs[i]? = some x ∧ ys[i]? = some y ∧ d = .tuple [x, y] := by
  unfold pairs at h
  rw [List.getElem?_map] at h
  obtain ⟨z, hz, e⟩ := Option.map_eq_some_iff.mp h
  rw [List.getElem?_zip_eq_some] at hz
  exact ⟨z.1, z.2, hz.1, hz.2, e.symm⟩
theorem pairs_len (xs ys : List D) : (pairs xs ys).length = min xs.length ys.length := by unfold pairs; rw [List.length_map, List.length_zip]
theorem wk_zip {K : PySem.W.Frag} {F : Hp} {a b : Addr} {vs us : List V} {ds es : List D} {t1 t2 sb : Bool} (hb : sb = true → ds.length = es.length) (h : SqF K t1 F a vs) (g : SqF K t2 F b us) (r : Rps K F vs ds) (q : Rps K F us es) : Wk K F (TZ.ItzB K t1 t2 sb a b) (pairs ds es) where
  go i F1 H1 e1 e2 hi := by
    rw [pairs_len] at hi
    obtain ⟨v, hv, _⟩ := r.get (List.getElem?_eq_getElem (Nat.lt_of_lt_of_le hi (Nat.min_le_left _ _)))
    obtain ⟨u, hu, _⟩ := q.get (List.getElem?_eq_getElem (Nat.lt_of_lt_of_le hi (Nat.min_le_right _ _)))
    exact ⟨vs, us, v, u, h.to e1 e2, g.to e1 e2, hv, hu⟩
  stop F1 H1 e1 e2 := ⟨vs, us, h.to e1 e2, g.to e1 e2, by
    rw [pairs_len, r.length, q.length]
    cases sb
    · rw [if_neg Bool.false_ne_true]; omega
    · rw [if_pos rfl]
      have := hb rfl
      omega⟩
  yld i F1 H1 x H' d e1 e2 hd hy := by
    obtain ⟨T, x1, x2, rfl, nT, rfl, f1, f2⟩ := hy
    obtain ⟨dx, dy, hx, hy, rfl⟩ := pairs_get hd
    obtain ⟨v, hv, rp⟩ := r.get hx
    obtain ⟨u, hu, rq⟩ := q.get hy
    have z1 := f1 vs (h.to e1 e2)
    have z2 := f2 us (g.to e1 e2)
    rw [hv] at z1; cases z1
    rw [hu] at z2; cases z2
    exact ⟨_, .tup nT (.cons (rp.mono e1) (.cons (rq.mono e1) .nil))⟩
theorem i_zip {e tg : Expr} {wa wb : WE} {sb : Bool} {st : Option Bool} (hst : sb = true → st = some true) (pi : PI X tg e (TZ.iZipB X.K sb (tCons (rdF X.K wa) (tCons (rdF X.K wb) tNil)))) :
    PI X tg e (rdI X.K fun ρ Q => wa ρ fun r ρ1 => wb ρ1 fun r' ρ2 => zipD st r.d r'.d fun ds => Q ds ρ2) :=
  pi.imp fun σ H R ⟨F, ρ, Qt, s, hw, k⟩ => ⟨F, ρ, _, s, hw, fun r ρ1 v F1 H1 q1 st1 s1 rp => ⟨F1, ρ1, _, s1, q1, fun r' ρ2 v' F2 H2 q2 st2 s2 rp' => by
    have rp := rp.mono st2.fr
    obtain ⟨t1, a, vs, ds, rfl, h, rr, q⟩ := items_cases rp q2
    obtain ⟨t2, c, us, es, rfl, h', rr', q⟩ := items_cases rp' q
    exact ⟨a, c, vs, us, t1, t2, rfl, h.to (fun _ _ h => h) s2.sub, h'.to (fun _ _ h => h) s2.sub, k _ _ _ _ _ q.2 (st1.trans st2) s2 (wk_zip (fun e => q.1 (hst e)) h h' rr rr')⟩⟩⟩
theorem i_rng1 {a : Expr} {w : WE} {p pos : Pos} (hg : Gl X "range") (hm : X.mg "range" = none) (h : PE X a (rdE X.K w)) (hs : starEach [a] X.env = (false, eval a X.env) :: starEach [] X.env) :
    PI X tg (.Call (.Name "range" p) [a] [] pos) (rdI X.K fun ρ Q => w ρ fun r ρ1 => asInt r.d fun j => rngOk j ∧ Q (rngD 0 j) ρ1) :=
  (pi_range1 hg hm (pa_cons h.frz pa_nil hs) hs).imp fun σ H R ⟨F, ρ, Qt, s, hw, k⟩ => ⟨F, ρ, _, s, hw, fun r ρ1 v F1 H1 q1 st1 s1 rp => by
    obtain ⟨j, rfl, ok, q⟩ := isI rp q1
    refine ⟨j, rfl, ok.1, ok.2, k _ _ _ _ _ q st1 s1 ?_⟩
    have := wk_rng (K := X.K) (F := F1) 0 j
    rw [Int.sub_zero] at this; exact this⟩
theorem i_rng2 {a b : Expr} {wa wb : WE} {p pos : Pos} (hg : Gl X "range") (hm : X.mg "range" = none) (ha : PE X a (rdE X.K wa)) (hb : PE X b (rdE X.K wb)) (hs : starEach [a, b] X.env = (false, eval a X.env) :: starEach [b] X.env) (hs2 : starEach [b] X.env = (false, eval b X.env) :: starEach [] X.env) :
    PI X tg (.Call (.Name "range" p) [a, b] [] pos) (rdI X.K fun ρ Q => wa ρ fun r ρ1 => wb ρ1 fun r' ρ2 => asInt r.d fun i => asInt r'.d fun j => rngOk i ∧ rngOk j ∧ Q (rngD i j) ρ2) :=
  (pi_range2 hg hm (pa_cons ha.frz (pa_cons hb.frz pa_nil hs2) hs) (by rw [hs, hs2]; rfl) hs2).imp fun σ H R ⟨F, ρ, Qt, s, hw, k⟩ => ⟨F, ρ, _, s, hw, fun r ρ1 v F1 H1 q1 st1 s1 rp => ⟨F1, ρ1, _, s1, q1, fun r' ρ2 v' F2 H2 q2 st2 s2 rp' => by
    obtain ⟨i, rfl, q⟩ := isI rp q2
    obtain ⟨j, rfl, ok1, ok2, q⟩ := isI rp' q
    exact ⟨i, j, rfl, ⟨ok1.1, ok1.2, ok2.1, ok2.2⟩, k _ _ _ _ _ q (st1.trans st2) s2 (wk_rng i j)⟩⟩⟩
theorem i_rng3 {a b c : Expr} {wa wb : WE} {p pos : Pos} {st : Int} (hg : Gl X "range") (hm : X.mg "range" = none) (ha : PE X a (rdE X.K wa)) (hb : PE X b (rdE X.K wb)) (hc : PE X c (tC (.int st)))
    (hs : starEach [a, b, c] X.env = (false, eval a X.env) :: starEach [b, c] X.env) (hs2 : starEach [b, c] X.env = (false, eval b X.env) :: starEach [c] X.env) (hs3 : starEach [c] X.env = (false, eval c X.env) :: starEach [] X.env) :
    PI X tg (.Call (.Name "range" p) [a, b, c] [] pos) (rdI X.K fun ρ Q => wa ρ fun r ρ1 => wb ρ1 fun r' ρ2 => asInt r.d fun i => asInt r'.d fun j => st ≠ 0 ∧ st.natAbs < 1000 ∧ Builtin.Range.small i j st = true ∧ Q (rng3D i j st) ρ2) :=
  (pi_range3 hg hm (pa_cons ha.frz (pa_cons hb.frz (pa_cons hc pa_nil hs3) hs2) hs) hs (by rw [hs2, hs3]; rfl)).imp fun σ H R ⟨F, ρ, Qt, s, hw, k⟩ => ⟨F, ρ, _, s, hw, fun r ρ1 v F1 H1 q1 st1 s1 rp => ⟨F1, ρ1, _, s1, q1, fun r' ρ2 v' F2 H2 q2 st2 s2 rp' => by
    obtain ⟨i, rfl, q⟩ := isI rp q2
    obtain ⟨j, rfl, c0, c1, c2, q⟩ := isI rp' q
    refine ⟨i, j, st, _, rfl, ⟨c0, by omega, c2, ?_⟩, k _ _ _ _ _ q (st1.trans st2) s2 (wk_rngC i j st)⟩
    exact (Int.toNat_of_nonneg (rangeSize_nn i j st c0)).symm⟩⟩
end
end
end TL
end
section
set_option autoImplicit false
set_option maxHeartbeats 1000000
/-! TL9: comprehensions -/
namespace TL
open PySem PySem.Spec PyProof.Rows L2

theorem wipe_get (σ : St) : ∀ (vs : List Nat) (j : Nat), (wipe σ vs)[j]? = if j ∈ vs then σ[j]?.map (fun _ => none) else σ[j]?
  | [], j => by simp [wipe]
  | v :: vs, j => by
    rw [wipe, List.getElem?_set, wipe_length]
    by_cases e : v = j
    · subst e
      rw [if_pos rfl, if_pos List.mem_cons_self]
      by_cases hl : v < σ.length
      · rw [if_pos hl, List.getElem?_eq_getElem hl]; rfl
      · rw [if_neg hl, List.getElem?_eq_none (by omega)]; rfl
    · rw [if_neg e, wipe_get σ vs j]
      by_cases h : j ∈ vs
      · rw [if_pos h, if_pos (List.mem_cons_of_mem _ h)]
      · rw [if_neg h, if_neg (fun z => (List.mem_cons.mp z).elim (fun q => e q.symm) h)]
theorem wipeS_len (ρ : Slots) : ∀ vs : List Nat, (wipeS ρ vs).length = ρ.length
  | [] => rfl
  | v :: vs => by rw [wipeS, List.length_set, wipeS_len ρ vs]
theorem wipeS_get (ρ : Slots) : ∀ (vs : List Nat) (j : Nat), (wipeS ρ vs)[j]? = if j ∈ vs then ρ[j]?.map (fun _ => Sl.un) else ρ[j]?
  | [], j => by simp [wipeS]
  | v :: vs, j => by
    rw [wipeS, List.getElem?_set, wipeS_len]
    by_cases e : v = j
    · subst e
      rw [if_pos rfl, if_pos List.mem_cons_self]
      by_cases hl : v < ρ.length
      · rw [if_pos hl, List.getElem?_eq_getElem hl]; rfl
      · rw [if_neg hl, List.getElem?_eq_none (by omega)]; rfl
    · rw [if_neg e, wipeS_get ρ vs j]
      by_cases h : j ∈ vs
      · rw [if_pos h, if_pos (List.mem_cons_of_mem _ h)]
      · rw [if_neg h, if_neg (fun z => (List.mem_cons.mp z).elim (fun q => e q.symm) h)]
theorem backS_len (ρ ρ' : Slots) : ∀ vs : List Nat, (backS ρ ρ' vs).length = ρ'.length
  | [] => rfl
  | v :: vs => by rw [backS, List.length_set, backS_len ρ ρ' vs]
theorem backS_get (ρ ρ' : Slots) : ∀ (vs : List Nat) (j : Nat), (backS ρ ρ' vs)[j]? = if j ∈ vs then ρ'[j]?.map (fun _ => ρ.getD j .un) else ρ'[j]?
  | [], j => by simp [backS]
  | v :: vs, j => by
    rw [backS, List.getElem?_set, backS_len]
    by_cases e : v = j
    · subst e
      rw [if_pos rfl, if_pos List.mem_cons_self]
      by_cases hl : v < ρ'.length
      · rw [if_pos hl, List.getElem?_eq_getElem hl]; rfl
      · rw [if_neg hl, List.getElem?_eq_none (by omega)]; rfl
    · rw [if_neg e, backS_get ρ ρ' vs j]
      by_cases h : j ∈ vs
      · rw [if_pos h, if_pos (List.mem_cons_of_mem _ h)]
      · rw [if_neg h, if_neg (fun z => (List.mem_cons.mp z).elim (fun q => e q.symm) h)]
section
variable {K : PySem.W.Frag} {F F' H H' H0 F0 F1 H1 F2 H2 : Hp} {σ σ' σ0 : St} {ρ ρ' ρ0 ρ1 ρ2 : Slots} {vs : List Nat}
theorem wipeS_some {j : Nat} {x : Sl} (h : (wipeS ρ vs)[j]? = some x) (hx : x ≠ .un) : j ∉ vs ∧ ρ[j]? = some x := by
  rw [wipeS_get] at h
  by_cases m : j ∈ vs
  · rw [if_pos m] at h
    cases e : ρ[j]? with
    | none => rw [e] at h; cases h
    | some z => rw [e] at h; cases h; exact absurd rfl hx
  · rw [if_neg m] at h; exact ⟨m, h⟩
theorem wipe_own {j : Nat} {a : Addr} (h : OwnL (wipeS ρ vs) (wipe σ vs) j a) : OwnL ρ σ j a ∧ j ∉ vs := by
  obtain ⟨ds, z1, z2⟩ := h
  obtain ⟨m, z1⟩ := wipeS_some z1 (fun q => nomatch q)
  rw [wipe_get, if_neg m] at z2
  exact ⟨⟨ds, z1, z2⟩, m⟩
theorem wipe_bor {j : Nat} {a : Addr} (h : BorL (wipeS ρ vs) (wipe σ vs) j a) : BorL ρ σ j a ∧ j ∉ vs := by
  obtain ⟨ds, z1, z2⟩ := h
  obtain ⟨m, z1⟩ := wipeS_some z1 (fun q => nomatch q)
  rw [wipe_get, if_neg m] at z2
  exact ⟨⟨ds, z1, z2⟩, m⟩
theorem wipe_bor' {j : Nat} {a : Addr} (h : BorL ρ σ j a) (m : j ∉ vs) : BorL (wipeS ρ vs) (wipe σ vs) j a := by
  obtain ⟨ds, z1, z2⟩ := h
  exact ⟨ds, by rw [wipeS_get, if_neg m]; exact z1, by rw [wipe_get, if_neg m]; exact z2⟩
theorem wipe_held {a : Addr} (h : Held (wipeS ρ vs) (wipe σ vs) a) : Held ρ σ a := by
  obtain ⟨j, h | h⟩ := h
  · exact ⟨j, .inl (wipe_own h).1⟩
  · exact ⟨j, .inr (wipe_bor h).1⟩
/-- the slots forgotten -/
theorem SR.wiped (s : SR K F H σ ρ) : SR K F H (wipe σ vs) (wipeS ρ vs) where
  len := by rw [wipeS_len, wipe_length]; exact s.len
  sub := s.sub
  slot j x o h1 h2 := by
    rw [wipeS_get] at h1
    rw [wipe_get] at h2
    by_cases m : j ∈ vs
    · rw [if_pos m] at h1
      cases e : ρ[j]? with
      | none => rw [e] at h1; cases h1
      | some z => rw [e] at h1; cases h1; exact trivial
    · rw [if_neg m] at h1 h2; exact s.slot j x o h1 h2
  uniq i j a h1 h2 := s.uniq i j a (h1.elim (fun h => .inl (wipe_own h).1) fun h => .inr (wipe_bor h).1) (h2.elim (fun h => .inl (wipe_own h).1) fun h => .inr (wipe_bor h).1)
  out a h := s.out a (wipe_held h)
theorem Stp.wiped (nb : ∀ j ∈ vs, ∀ a, ¬ BorL ρ σ j a) : Stp ρ F σ H (wipeS ρ vs) F (wipe σ vs) H where
  fr _ _ h := h
  kp _ _ h _ := h
  nw _ h := .inl h
  ow a h := let ⟨j, h⟩ := h; .inr ⟨j, (wipe_own h).1⟩
  bo j a := ⟨fun h => (wipe_bor h).1, fun h => wipe_bor' h fun m => nb j m a h⟩
  dom _ h := h
theorem free_at (f : freeS ρ vs) {j : Nat} (m : j ∈ vs) {x : Sl} (h : ρ[j]? = some x) : x.held = false := by
  have := f j m
  rw [List.getD_eq_getElem?_getD, h] at this
  exact this
theorem free_own (f : freeS ρ vs) {j : Nat} {a : Addr} (h : OwnL ρ σ j a) : j ∉ vs := fun m => by
  obtain ⟨ds, z1, _⟩ := h
  exact nomatch free_at f m z1
theorem free_bor (f : freeS ρ vs) {j : Nat} {a : Addr} (h : BorL ρ σ j a) : j ∉ vs := fun m => by
  obtain ⟨ds, z1, _⟩ := h
  exact nomatch free_at f m z1
theorem wipe_own' {j : Nat} {a : Addr} (h : OwnL ρ σ j a) (m : j ∉ vs) : OwnL (wipeS ρ vs) (wipe σ vs) j a := by
  obtain ⟨ds, z1, z2⟩ := h
  exact ⟨ds, by rw [wipeS_get, if_neg m]; exact z1, by rw [wipe_get, if_neg m]; exact z2⟩
theorem free_held (f : freeS ρ vs) {a : Addr} (h : Held ρ σ a) : Held (wipeS ρ vs) (wipe σ vs) a := by
  obtain ⟨j, h | h⟩ := h
  · exact ⟨j, .inl (wipe_own' h (free_own f h))⟩
  · exact ⟨j, .inr (wipe_bor' h (free_bor f h))⟩
theorem back_own (f : freeS ρ1 vs) {j : Nat} {a : Addr} (h : OwnL (backS ρ1 ρ2 vs) σ j a) : OwnL (wipeS ρ2 vs) (wipe σ vs) j a ∧ j ∉ vs := by
  obtain ⟨ds, z1, z2⟩ := h
  rw [backS_get] at z1
  by_cases m : j ∈ vs
  · rw [if_pos m] at z1
    cases e : ρ2[j]? with
    | none => rw [e] at z1; cases z1
    | some z =>
      rw [e] at z1
      have z1' : ρ1.getD j .un = .own ds := Option.some.inj z1
      have := f j m
      rw [z1'] at this; cases this
  · rw [if_neg m] at z1
    exact ⟨wipe_own' ⟨ds, z1, z2⟩ m, m⟩
theorem back_bor (f : freeS ρ1 vs) {j : Nat} {a : Addr} (h : BorL (backS ρ1 ρ2 vs) σ j a) : BorL (wipeS ρ2 vs) (wipe σ vs) j a ∧ j ∉ vs := by
  obtain ⟨ds, z1, z2⟩ := h
  rw [backS_get] at z1
  by_cases m : j ∈ vs
  · rw [if_pos m] at z1
    cases e : ρ2[j]? with
    | none => rw [e] at z1; cases z1
    | some z =>
      rw [e] at z1
      have z1' : ρ1.getD j .un = .bor ds := Option.some.inj z1
      have := f j m
      rw [z1'] at this; cases this
  · rw [if_neg m] at z1
    exact ⟨wipe_bor' ⟨ds, z1, z2⟩ m, m⟩
theorem back_held (f : freeS ρ1 vs) {a : Addr} (h : Held (backS ρ1 ρ2 vs) σ a) : Held (wipeS ρ2 vs) (wipe σ vs) a := by
  obtain ⟨j, h | h⟩ := h
  · exact ⟨j, .inl (back_own f h).1⟩
  · exact ⟨j, .inr (back_bor f h).1⟩
/-- behind the block -/
theorem SR.backed (s1 : SR K F1 H1 σ ρ1) (f : freeS ρ1 vs) (s2 : SR K F2 H2 (wipe σ vs) (wipeS ρ2 vs)) (t : Stp (wipeS ρ1 vs) F1 (wipe σ vs) H1 (wipeS ρ2 vs) F2 (wipe σ vs) H2) :
    Stp ρ1 F1 σ H1 (backS ρ1 ρ2 vs) F2 σ H2 ∧ SR K F2 H2 σ (backS ρ1 ρ2 vs) := by
  refine ⟨⟨t.fr, fun a o h n => t.kp a o h fun q => n (wipe_held q), fun a h => ?_, fun a ⟨j, h⟩ => ?_, fun j a => ?_, t.dom⟩, ?_⟩
  · rcases t.nw a h with q | q | ⟨j, q⟩
    · exact .inl q
    · exact .inr (.inl q)
    · exact .inr (.inr ⟨j, (wipe_own q).1⟩)
  · rcases t.ow a ⟨j, (back_own f h).1⟩ with q | ⟨l, q⟩
    · exact .inl q
    · exact .inr ⟨l, (wipe_own q).1⟩
  · constructor
    · intro h; exact (wipe_bor ((t.bo j a).mp (back_bor f h).1)).1
    · intro h
      have m := free_bor f h
      have q := (t.bo j a).mpr (wipe_bor' h m)
      obtain ⟨⟨ds, z1, z2⟩, _⟩ := wipe_bor q
      exact ⟨ds, by rw [backS_get, if_neg m]; exact z1, z2⟩
  · have l2 : ρ2.length = σ.length := by have := s2.len; rwa [wipeS_len, wipe_length] at this
    refine ⟨by rw [backS_len]; exact l2, s2.sub, fun j x o h1 h2 => ?_, fun i j a h1 h2 => ?_, fun a h => s2.out a (back_held f h)⟩
    · rw [backS_get] at h1
      by_cases m : j ∈ vs
      · rw [if_pos m] at h1
        cases e : ρ2[j]? with
        | none => rw [e] at h1; cases h1
        | some z =>
          rw [e] at h1
          have h1' : ρ1.getD j .un = x := Option.some.inj h1
          rw [List.getD_eq_getElem?_getD] at h1'
          cases e1 : ρ1[j]? with
          | none => rw [e1] at h1'; subst h1'; exact trivial
          | some y =>
            rw [e1] at h1'
            have h1'' : y = x := h1'
            subst h1''
            have q := s1.slot j y o e1 h2
            have hh := free_at f m e1
            cases y with
            | un => exact trivial
            | fz d => obtain ⟨v, e, r⟩ := q; exact ⟨v, e, r.mono t.fr⟩
            | own ds => cases hh
            | bor ds => cases hh
      · rw [if_neg m] at h1
        exact s2.slot j x o (by rw [wipeS_get, if_neg m]; exact h1) (by rw [wipe_get, if_neg m]; exact h2)
    · exact s2.uniq i j a (h1.elim (fun h => .inl (back_own f h).1) fun h => .inr (back_bor f h).1) (h2.elim (fun h => .inl (back_own f h).1) fun h => .inr (back_bor f h).1)
theorem wipe_kept {tgS' : List Nat} (hs : ∀ j ∈ tgS', j ∈ vs) (k : Kept tgS' (wipe σ vs) σ') : wipe σ' vs = wipe σ vs := by
  have l : σ'.length = σ.length := k.1.trans (wipe_length _ _)
  refine List.ext_getElem? fun j => ?_
  rw [wipe_get, wipe_get]
  by_cases m : j ∈ vs
  · rw [if_pos m, if_pos m]
    by_cases hl : j < σ.length
    · rw [List.getElem?_eq_getElem hl, List.getElem?_eq_getElem (by omega)]; rfl
    · rw [List.getElem?_eq_none (by omega), List.getElem?_eq_none (by omega)]
  · rw [if_neg m, if_neg m, k.2 j fun h => m (hs j h), wipe_get, if_neg m]
end

/-- from the trees' run to the comprehension's reading -/
theorem rd_lc {K : PySem.W.Frag} {t : TG} {wi : WI} {wt : WT} {we : WE} {vs : List Nat} (ht : ∀ j ∈ tgS t, j ∈ vs) {σ : St} {H : Hp} {Q : VK}
    (h : rdE K (fun ρ Q => wi ρ fun ds ρ1 => freeS ρ1 vs ∧ lcGo vs t wt we ds [] ρ1 fun acc ρ2 => Q (.own acc) (backS ρ1 ρ2 vs)) σ H Q) :
    tLc (rdI K wi) (rdG K t) (rdT K wt) (rdF K we) vs σ H Q := by
  obtain ⟨F, ρ, Qt, s, hw, kk⟩ := h
  refine ⟨F, ρ, _, s, hw, fun ds ρ1 J F1 H1 ⟨hf, hgo⟩ st1 s1 wk D nD => ?_⟩
  refine ⟨fun i m H2 => m = ds.length - i ∧ i ≤ ds.length ∧ ∃ F2 ρ2 acc vacc, Stp (wipeS ρ1 vs) F1 (wipe σ vs) H1 (wipeS ρ2 vs) F2 (wipe σ vs) H2 ∧ SR K F2 H2 (wipe σ vs) (wipeS ρ2 vs) ∧ H2 D = some (.lst vacc) ∧ Rps K F2 vacc acc ∧ F2 D = none ∧
    ¬ Held (wipeS ρ2 vs) (wipe σ vs) D ∧ lcGo vs t wt we (ds.drop i) acc ρ2 (fun acc ρ2 => Qt (.own acc) (backS ρ1 ρ2 vs)), ⟨ds.length, rfl, Nat.zero_le _, ?_⟩, ?_⟩
  · obtain ⟨st2, s2⟩ := (s1.wiped (vs := vs)).laid (o := .lst []) nD
    exact ⟨F1, ρ1, [], [], st2, s2, upd_same, .nil, s1.freeOf nD, (s1.wiped (vs := vs)).heldNe nD, by rw [List.drop_zero]; exact hgo⟩
  · rintro i m H2 ⟨rfl, hi, F2, ρ2, acc, vacc, st2, s2, hD, ra, fD, nh, go⟩
    by_cases hlt : i < ds.length
    · refine .inr ⟨wk.go i F2 H2 st2.fr s2.sub hlt, fun H' => (i + 1 ≤ ds.length) ∧ ∃ F2 ρ2 acc vacc, Stp (wipeS ρ1 vs) F1 (wipe σ vs) H1 (wipeS ρ2 vs) F2 (wipe σ vs) H' ∧ SR K F2 H' (wipe σ vs) (wipeS ρ2 vs) ∧ H' D = some (.lst vacc) ∧ Rps K F2 vacc acc ∧ F2 D = none ∧
        ¬ Held (wipeS ρ2 vs) (wipe σ vs) D ∧ lcGo vs t wt we (ds.drop (i + 1)) acc ρ2 (fun acc ρ2 => Qt (.own acc) (backS ρ1 ρ2 vs)), fun H' hN => ⟨ds.length - (i + 1), by omega, rfl, hN⟩, fun x H' hy => ?_⟩
      rw [List.drop_eq_getElem_cons hlt] at go
      obtain ⟨F', gv⟩ := wk.yld i F2 H2 x H' _ st2.fr s2.sub (List.getElem?_eq_getElem hlt) hy
      obtain ⟨st3, s3, rv⟩ := gv.step s2
      refine ⟨_, _, _, _, F', wipeS ρ2 vs, .fz _, _, st3, s3, rv, go, fun σ4 ρ4 q4 st4 s4 kept => ?_⟩
      have ew : wipe σ4 vs = wipe σ vs := wipe_kept ht kept
      refine ⟨ew, F', ρ4, _, s4, q4, fun b ρ5 F5 H5 q5 st5 s5 => ?_⟩
      -- what stays of D
      have stay : ∀ {ρx : Slots} {Fx Hx : Hp}, Stp (wipeS ρ2 vs) F2 (wipe σ vs) H2 ρx Fx σ4 Hx → Hx D = some (.lst vacc) ∧ Fx D = none ∧ ¬ Held ρx σ4 D := fun {ρx Fx Hx} st => by
        refine ⟨st.kp _ _ hD nh, ?_, fun q => ?_⟩
        · cases e : Fx D with
          | none => rfl
          | some o =>
            rcases st.nw D (by rw [e]; simp) with q | q | q
            · exact absurd fD q
            · rw [hD] at q; cases q
            · exact absurd q.held nh
        · rcases st.heldBack q with q | q
          · rw [hD] at q; cases q
          · exact nh q
      have nb : ∀ {ρx : Slots} {Fx Hx : Hp}, Stp (wipeS ρ1 vs) F1 (wipe σ vs) H1 ρx Fx σ4 Hx → ∀ j ∈ vs, ∀ a, ¬ BorL ρx σ4 j a := fun {ρx Fx Hx} st j m a q => (wipe_bor ((st.bo j a).mp q)).2 m
      have st45 := st4.trans st5
      by_cases hb : b = true
      · subst hb
        dsimp only
        rw [if_pos rfl] at q5 ⊢
        refine ⟨F5, ρ5, _, s5, q5, fun r ρ6 y F6 H6 ⟨hz, q6⟩ st6 s6 rp => ?_⟩
        obtain ⟨g1, g2, g3⟩ := stay (st45.trans st6)
        have lv : vacc.length = acc.length := ra.length
        refine ⟨vacc, g1, by rw [lv]; exact hz, by omega, F6, ρ6, acc ++ [r.d], vacc ++ [y], ?_, ?_, upd_same, ((ra.mono (st45.trans st6).fr)).append (.one rp), g2, ?_, q6⟩
        · have base := (st2.trans st45).trans st6
          have w := base.trans (Stp.wiped (nb base))
          rw [ew] at w
          exact ⟨w.fr, fun a o h n => by rw [upd_ne (fun e => by subst e; rw [nD] at h; cases h)]; exact w.kp a o h n, w.nw, w.ow, w.bo, fun a h => by
            by_cases e : a = D
            · subst e; exact nD
            · rw [upd_ne e] at h; exact w.dom a h⟩
        · have w := s6.wiped (vs := vs)
          rw [ew] at w
          exact w.ext (fun _ _ h => h) (fun a o h => by rw [upd_ne (fun e => by subst e; rw [g2] at h; cases h)]; exact w.sub _ _ h) (fun a o h hh => by
            rw [upd_ne (fun e => by subst e; exact g3 (wipe_held (by rw [ew]; exact hh)))]; exact h) w.out
        · intro hh
          exact g3 (wipe_held (vs := vs) (by rw [ew]; exact hh))
      · have hb' : b = false := by simpa using hb
        subst hb'
        dsimp only
        rw [if_neg (by decide)] at q5 ⊢
        obtain ⟨g1, g2, g3⟩ := stay st45
        have base := st2.trans st45
        have w := base.trans (Stp.wiped (nb base))
        rw [ew] at w
        have w2 := s5.wiped (vs := vs)
        rw [ew] at w2
        exact ⟨by omega, F5, ρ5, acc, vacc, w, w2, g1, ra.mono st45.fr, g2, fun hh => g3 (wipe_held (vs := vs) (by rw [ew]; exact hh)), q5⟩
    · have ei : i = ds.length := by omega
      subst ei
      rw [List.drop_length] at go
      obtain ⟨st5, s5⟩ := s1.backed hf s2 st2
      refine .inl ⟨wk.stop F2 H2 st2.fr s2.sub, kk _ _ _ _ _ go (st1.trans st5) s5 ⟨D, rfl, ⟨vacc, hD, ra⟩, fD, fun q => nh (back_held hf q), st1.dom D nD⟩⟩
end TL
end
section
set_option maxHeartbeats 1000000
/-! TLC: comprehensions of two fors -/
namespace TL
open PySem PySem.Spec PyProof.Rows L2
section
variable {σ : St} {ρ : Slots} {vs vs1 : List Nat}
theorem wipe_wipe (h : ∀ j ∈ vs1, j ∈ vs) : wipe (wipe σ vs1) vs = wipe σ vs := by
  refine List.ext_getElem? fun j => ?_
  rw [wipe_get, wipe_get, wipe_get]
  by_cases m : j ∈ vs
  · rw [if_pos m, if_pos m]
    by_cases m1 : j ∈ vs1
    · rw [if_pos m1, Option.map_map]; rfl
    · rw [if_neg m1]
  · rw [if_neg m, if_neg m, if_neg fun e => m (h j e)]
theorem wipeS_wipeS (h : ∀ j ∈ vs1, j ∈ vs) : wipeS (wipeS ρ vs1) vs = wipeS ρ vs := by
  refine List.ext_getElem? fun j => ?_
  rw [wipeS_get, wipeS_get, wipeS_get]
  by_cases m : j ∈ vs
  · rw [if_pos m, if_pos m]
    by_cases m1 : j ∈ vs1
    · rw [if_pos m1, Option.map_map]; rfl
    · rw [if_neg m1]
  · rw [if_neg m, if_neg m, if_neg fun e => m (h j e)]
end
/-- the turns of a comprehension's loop, with the list D that grows -/
theorem go_core {K : PySem.W.Frag} {t : TG} {wt : WT} {we : WE} {vs : List Nat} (ht : ∀ j ∈ tgS t, j ∈ vs) {σ σ0 : St} {ρ0 ρ1 : Slots} {F0 F1 H0 H1 : Hp} {J : It} {ds acc0 : List D} {vacc0 : List V}
    {kf : List D → Slots → Prop} {Nx : Hp → Prop} {D : Addr} (nD : H0 D = none) (nb0 : ∀ j ∈ vs, ∀ a, ¬ BorL ρ0 σ0 j a) (wk : Wk K F1 J ds)
    (st0 : Stp ρ0 F0 σ0 H0 (wipeS ρ1 vs) F1 (wipe σ vs) H1) (s0 : SR K F1 H1 (wipe σ vs) (wipeS ρ1 vs)) (hD0 : H1 D = some (.lst vacc0)) (ra0 : Rps K F1 vacc0 acc0) (fD0 : F1 D = none) (nh0 : ¬ Held (wipeS ρ1 vs) (wipe σ vs) D)
    (go0 : lcGo vs t wt we ds acc0 ρ1 kf)
    (fin : ∀ F2 H2 ρ2 acc vacc, Same F1 F2 → Stp ρ0 F0 σ0 H0 (wipeS ρ2 vs) F2 (wipe σ vs) H2 → SR K F2 H2 (wipe σ vs) (wipeS ρ2 vs) → H2 D = some (.lst vacc) → Rps K F2 vacc acc → F2 D = none → ¬ Held (wipeS ρ2 vs) (wipe σ vs) D → kf acc ρ2 → Nx H2) :
    ∃ W : Nat → Nat → Hp → Prop, (∃ m, W 0 m H1) ∧ ∀ i m H, W i m H →
      (J.stop i H ∧ Nx H) ∨ (J.go i H ∧ ∃ Nx1 : Hp → Prop, (∀ H', Nx1 H' → ∃ m', m' < m ∧ W (i + 1) m' H') ∧ ∀ x H', J.yld i H x H' → rdG K t x (wipe σ vs) H' fun σ3 H5 => wipe σ3 vs = wipe σ vs ∧ rdT K wt σ3 H5 fun b H6 =>
        if b = true then rdF K we σ3 H6 fun y H7 => ∃ acc, H7 D = some (.lst acc) ∧ acc.length < sizeLine ∧ Nx1 (upd H7 D (.lst (acc ++ [y]))) else Nx1 H6) := by
  refine ⟨fun i m H2 => m = ds.length - i ∧ i ≤ ds.length ∧ ∃ F2 ρ2 acc vacc, Same F1 F2 ∧ Stp ρ0 F0 σ0 H0 (wipeS ρ2 vs) F2 (wipe σ vs) H2 ∧ SR K F2 H2 (wipe σ vs) (wipeS ρ2 vs) ∧ H2 D = some (.lst vacc) ∧ Rps K F2 vacc acc ∧ F2 D = none ∧
    ¬ Held (wipeS ρ2 vs) (wipe σ vs) D ∧ lcGo vs t wt we (ds.drop i) acc ρ2 kf, ⟨ds.length, rfl, Nat.zero_le _, F1, ρ1, acc0, vacc0, fun _ _ h => h, st0, s0, hD0, ra0, fD0, nh0, by rw [List.drop_zero]; exact go0⟩, ?_⟩
  rintro i m H2 ⟨rfl, hi, F2, ρ2, acc, vacc, sm2, st2, s2, hD, ra, fD, nh, go⟩
  by_cases hlt : i < ds.length
  · refine .inr ⟨wk.go i F2 H2 sm2 s2.sub hlt, fun H' => (i + 1 ≤ ds.length) ∧ ∃ F2 ρ2 acc vacc, Same F1 F2 ∧ Stp ρ0 F0 σ0 H0 (wipeS ρ2 vs) F2 (wipe σ vs) H' ∧ SR K F2 H' (wipe σ vs) (wipeS ρ2 vs) ∧ H' D = some (.lst vacc) ∧ Rps K F2 vacc acc ∧ F2 D = none ∧
        ¬ Held (wipeS ρ2 vs) (wipe σ vs) D ∧ lcGo vs t wt we (ds.drop (i + 1)) acc ρ2 kf, fun H' hN => ⟨ds.length - (i + 1), by omega, rfl, hN⟩, fun x H' hy => ?_⟩
    rw [List.drop_eq_getElem_cons hlt] at go
    obtain ⟨F', gv⟩ := wk.yld i F2 H2 x H' _ sm2 s2.sub (List.getElem?_eq_getElem hlt) hy
    obtain ⟨st3, s3, rv⟩ := gv.step s2
    refine ⟨_, _, _, _, F', wipeS ρ2 vs, .fz _, _, st3, s3, rv, go, fun σ4 ρ4 q4 st4 s4 kept => ?_⟩
    have ew : wipe σ4 vs = wipe σ vs := wipe_kept ht kept
    refine ⟨ew, F', ρ4, _, s4, q4, fun b ρ5 F5 H5 q5 st5 s5 => ?_⟩
    have stay : ∀ {ρx : Slots} {Fx Hx : Hp}, Stp (wipeS ρ2 vs) F2 (wipe σ vs) H2 ρx Fx σ4 Hx → Hx D = some (.lst vacc) ∧ Fx D = none ∧ ¬ Held ρx σ4 D := fun {ρx Fx Hx} st => by
      refine ⟨st.kp _ _ hD nh, ?_, fun q => ?_⟩
      · cases e : Fx D with
        | none => rfl
        | some o =>
          rcases st.nw D (by rw [e]; simp) with q | q | q
          · exact absurd fD q
          · rw [hD] at q; cases q
          · exact absurd q.held nh
      · rcases st.heldBack q with q | q
        · rw [hD] at q; cases q
        · exact nh q
    have nb : ∀ {ρx : Slots} {Fx Hx : Hp}, Stp ρ0 F0 σ0 H0 ρx Fx σ4 Hx → ∀ j ∈ vs, ∀ a, ¬ BorL ρx σ4 j a := fun {ρx Fx Hx} st j m a q => nb0 j m a ((st.bo j a).mp q)
    have st45 := st4.trans st5
    by_cases hb : b = true
    · subst hb
      dsimp only
      rw [if_pos rfl] at q5 ⊢
      refine ⟨F5, ρ5, _, s5, q5, fun r ρ6 y F6 H6 ⟨hz, q6⟩ st6 s6 rp => ?_⟩
      obtain ⟨g1, g2, g3⟩ := stay (st45.trans st6)
      have lv : vacc.length = acc.length := ra.length
      refine ⟨vacc, g1, by rw [lv]; exact hz, by omega, F6, ρ6, acc ++ [r.d], vacc ++ [y], fun _ _ h => (st45.trans st6).fr _ _ (sm2 _ _ h), ?_, ?_, upd_same, ((ra.mono (st45.trans st6).fr)).append (.one rp), g2, ?_, q6⟩
      · have base := (st2.trans st45).trans st6
        have w := base.trans (Stp.wiped (nb base))
        rw [ew] at w
        exact ⟨w.fr, fun a o h n => by rw [upd_ne (fun e => by subst e; rw [nD] at h; cases h)]; exact w.kp a o h n, w.nw, w.ow, w.bo, fun a h => by
          by_cases e : a = D
          · subst e; exact nD
          · rw [upd_ne e] at h; exact w.dom a h⟩
      · have w := s6.wiped (vs := vs)
        rw [ew] at w
        exact w.ext (fun _ _ h => h) (fun a o h => by rw [upd_ne (fun e => by subst e; rw [g2] at h; cases h)]; exact w.sub _ _ h) (fun a o h hh => by
          rw [upd_ne (fun e => by subst e; exact g3 (wipe_held (by rw [ew]; exact hh)))]; exact h) w.out
      · intro hh
        exact g3 (wipe_held (vs := vs) (by rw [ew]; exact hh))
    · have hb' : b = false := by simpa using hb
      subst hb'
      dsimp only
      rw [if_neg (by decide)] at q5 ⊢
      obtain ⟨g1, g2, g3⟩ := stay st45
      have base := st2.trans st45
      have w := base.trans (Stp.wiped (nb base))
      rw [ew] at w
      have w2 := s5.wiped (vs := vs)
      rw [ew] at w2
      exact ⟨by omega, F5, ρ5, acc, vacc, fun _ _ h => st45.fr _ _ (sm2 _ _ h), w, w2, g1, ra.mono st45.fr, g2, fun hh => g3 (wipe_held (vs := vs) (by rw [ew]; exact hh)), q5⟩
  · have ei : i = ds.length := by omega
    subst ei
    rw [List.drop_length] at go
    exact .inl ⟨wk.stop F2 H2 sm2 s2.sub, fin F2 H2 ρ2 acc vacc sm2 st2 s2 hD ra fD nh go⟩
/-- from the trees' run to the reading of a comprehension of two fors -/
theorem rd_lc2 {K : PySem.W.Frag} {t t1 : TG} {wi wi1 : WI} {wt wt1 : WT} {we : WE} {vs vs1 : List Nat} (ht : ∀ j ∈ tgS t, j ∈ vs) (ht1 : ∀ j ∈ tgS t1, j ∈ vs1) (hvs : ∀ j ∈ vs1, j ∈ vs) {σ : St} {H : Hp} {Q : VK}
    (h : rdE K (fun ρ Q => wi ρ fun ds ρ1 => freeS ρ1 vs ∧ lc2Go vs vs1 t wt t1 wi1 wt1 we ds [] ρ1 fun acc ρ2 => Q (.own acc) (backS ρ1 ρ2 vs)) σ H Q) :
    tLc2 (rdI K wi) (rdG K t) (rdT K wt) (rdI K wi1) (rdG K t1) (rdT K wt1) (rdF K we) vs vs1 σ H Q := by
  obtain ⟨F, ρ, Qt, s, hw, kk⟩ := h
  refine ⟨F, ρ, _, s, hw, fun ds ρ1 J F1 H1 ⟨hf, hgo⟩ st1 s1 wk D nD => ?_⟩
  refine ⟨fun i m H2 => m = ds.length - i ∧ i ≤ ds.length ∧ ∃ F2 ρ2 acc vacc, Stp (wipeS ρ1 vs) F1 (wipe σ vs) H1 (wipeS ρ2 vs) F2 (wipe σ vs) H2 ∧ SR K F2 H2 (wipe σ vs) (wipeS ρ2 vs) ∧ H2 D = some (.lst vacc) ∧ Rps K F2 vacc acc ∧ F2 D = none ∧
    ¬ Held (wipeS ρ2 vs) (wipe σ vs) D ∧ lc2Go vs vs1 t wt t1 wi1 wt1 we (ds.drop i) acc ρ2 (fun acc ρ2 => Qt (.own acc) (backS ρ1 ρ2 vs)), ⟨ds.length, rfl, Nat.zero_le _, ?_⟩, ?_⟩
  · obtain ⟨st2, s2⟩ := (s1.wiped (vs := vs)).laid (o := .lst []) nD
    exact ⟨F1, ρ1, [], [], st2, s2, upd_same, .nil, s1.freeOf nD, (s1.wiped (vs := vs)).heldNe nD, by rw [List.drop_zero]; exact hgo⟩
  · rintro i m H2 ⟨rfl, hi, F2, ρ2, acc, vacc, st2, s2, hD, ra, fD, nh, go⟩
    by_cases hlt : i < ds.length
    · refine .inr ⟨wk.go i F2 H2 st2.fr s2.sub hlt, fun H' => (i + 1 ≤ ds.length) ∧ ∃ F2 ρ2 acc vacc, Stp (wipeS ρ1 vs) F1 (wipe σ vs) H1 (wipeS ρ2 vs) F2 (wipe σ vs) H' ∧ SR K F2 H' (wipe σ vs) (wipeS ρ2 vs) ∧ H' D = some (.lst vacc) ∧ Rps K F2 vacc acc ∧ F2 D = none ∧
        ¬ Held (wipeS ρ2 vs) (wipe σ vs) D ∧ lc2Go vs vs1 t wt t1 wi1 wt1 we (ds.drop (i + 1)) acc ρ2 (fun acc ρ2 => Qt (.own acc) (backS ρ1 ρ2 vs)), fun H' hN => ⟨ds.length - (i + 1), by omega, rfl, hN⟩, fun x H' hy => ?_⟩
      rw [List.drop_eq_getElem_cons hlt] at go
      obtain ⟨F', gv⟩ := wk.yld i F2 H2 x H' _ st2.fr s2.sub (List.getElem?_eq_getElem hlt) hy
      obtain ⟨st3, s3, rv⟩ := gv.step s2
      refine ⟨_, _, _, _, F', wipeS ρ2 vs, .fz _, _, st3, s3, rv, go, fun σ4 ρ4 q4 st4 s4 kept => ?_⟩
      have ew : wipe σ4 vs = wipe σ vs := wipe_kept ht kept
      refine ⟨ew, F', ρ4, _, s4, q4, fun b ρ5 F5 H5 q5 st5 s5 => ?_⟩
      have stay : ∀ {ρx : Slots} {Fx Hx : Hp}, Stp (wipeS ρ2 vs) F2 (wipe σ vs) H2 ρx Fx σ4 Hx → Hx D = some (.lst vacc) ∧ Fx D = none ∧ ¬ Held ρx σ4 D := fun {ρx Fx Hx} st => by
        refine ⟨st.kp _ _ hD nh, ?_, fun q => ?_⟩
        · cases e : Fx D with
          | none => rfl
          | some o =>
            rcases st.nw D (by rw [e]; simp) with q | q | q
            · exact absurd fD q
            · rw [hD] at q; cases q
            · exact absurd q.held nh
        · rcases st.heldBack q with q | q
          · rw [hD] at q; cases q
          · exact nh q
      have nb : ∀ {ρx : Slots} {Fx Hx : Hp}, Stp (wipeS ρ1 vs) F1 (wipe σ vs) H1 ρx Fx σ4 Hx → ∀ j ∈ vs, ∀ a, ¬ BorL ρx σ4 j a := fun {ρx Fx Hx} st j m a q => (wipe_bor ((st.bo j a).mp q)).2 m
      have st45 := st4.trans st5
      by_cases hb : b = true
      · subst hb
        dsimp only
        rw [if_pos rfl] at q5 ⊢
        refine ⟨F5, ρ5, _, s5, q5, fun ds1 ρ6 J1 F6 H6 q6 st6 s6 wk1 => ?_⟩
        obtain ⟨g1, g2, g3⟩ := stay (st45.trans st6)
        have base := (st2.trans st45).trans st6
        have nb1 : ∀ j ∈ vs1, ∀ a, ¬ BorL ρ6 σ4 j a := fun j m a => nb base j (hvs j m) a
        refine go_core (vs := vs1) ht1 nD (fun j m a q => (wipe_bor q).2 (hvs j m)) wk1 (base.trans (Stp.wiped nb1)) s6.wiped g1 (ra.mono (st45.trans st6).fr) g2 (fun hh => g3 (wipe_held hh)) q6 fun F7 H7 ρ7 acc7 vacc7 sm7 st7 s7 hD7 ra7 fD7 nh7 q7 => ?_
        have e1 : wipe (wipe σ4 vs1) vs = wipe σ vs := (wipe_wipe hvs).trans ew
        have e2 : wipeS (wipeS ρ7 vs1) vs = wipeS ρ7 vs := wipeS_wipeS hvs
        have w := st7.trans (Stp.wiped (vs := vs) fun j m a q => (wipe_bor ((st7.bo j a).mp q)).2 m)
        have w2 := s7.wiped (vs := vs)
        rw [e1, e2] at w w2
        refine ⟨by omega, F7, ρ7, acc7, vacc7, w, w2, hD7, ra7, fD7, fun hh => nh7 (wipe_held (vs := vs) (by rw [e1, e2]; exact hh)), q7⟩
      · have hb' : b = false := by simpa using hb
        subst hb'
        dsimp only
        rw [if_neg (by decide)] at q5 ⊢
        obtain ⟨g1, g2, g3⟩ := stay st45
        have base := st2.trans st45
        have w := base.trans (Stp.wiped (nb base))
        rw [ew] at w
        have w2 := s5.wiped (vs := vs)
        rw [ew] at w2
        exact ⟨by omega, F5, ρ5, acc, vacc, w, w2, g1, ra.mono st45.fr, g2, fun hh => g3 (wipe_held (vs := vs) (by rw [ew]; exact hh)), q5⟩
    · have ei : i = ds.length := by omega
      subst ei
      rw [List.drop_length] at go
      obtain ⟨st5, s5⟩ := s1.backed hf s2 st2
      refine .inl ⟨wk.stop F2 H2 st2.fr s2.sub, kk _ _ _ _ _ go (st1.trans st5) s5 ⟨D, rfl, ⟨vacc, hD, ra⟩, fD, fun q => nh (back_held hf q), st1.dom D nD⟩⟩
end TL
end
section
set_option autoImplicit false
set_option maxHeartbeats 1000000
/-! TL10: statements -/
namespace TL
open PySem PySem.Spec PyProof.Rows L2

/-- a value that is returned: a new list, or one that a slot held -/
def RVt (K : PySem.W.Frag) (ρ : Slots) (σ : St) (H F' H' : Hp) (σ' : St) (ρ' : Slots) (v : V) (r : RV) : Prop := match r with
  | .fz d => Rp K F' v d
  | .own ds => ∃ a, v = .ref a ∧ LstR K F' H' a ds ∧ F' a = none ∧ ¬ Held ρ' σ' a ∧ (H a = none ∨ OwnA ρ σ a)
structure EndsOk (K : PySem.W.Frag) (E : WEnds) (D : Ends) (ρ : Slots) (F : Hp) (σ : St) (H : Hp) : Prop where
  nx : ∀ ρ' σ' F' H', E.nx ρ' → Stp ρ F σ H ρ' F' σ' H' → SR K F' H' σ' ρ' → D.nx σ' H'
  bk : ∀ ρ' σ' F' H', E.bk ρ' → Stp ρ F σ H ρ' F' σ' H' → SR K F' H' σ' ρ' → D.bk σ' H'
  ct : ∀ ρ' σ' F' H', E.ct ρ' → Stp ρ F σ H ρ' F' σ' H' → SR K F' H' σ' ρ' → D.ct σ' H'
  rt : ∀ r ρ' v σ' F' H', E.rt r ρ' → Stp ρ F σ H ρ' F' σ' H' → SR K F' H' σ' ρ' → RVt K ρ σ H F' H' σ' ρ' v r → D.rt v H'
abbrev WS := Slots → WEnds → Prop
def rdS (K : PySem.W.Frag) (w : WS) : TS := fun D σ H => ∃ F ρ E, SR K F H σ ρ ∧ w ρ E ∧ EndsOk K E D ρ F σ H
section
variable {K : PySem.W.Frag} {F F1 H H1 : Hp} {σ σ1 : St} {ρ ρ1 : Slots} {E : WEnds} {D : Ends}
theorem RVt.back {F' H' : Hp} {σ' : St} {ρ' : Slots} {v : V} {r : RV} (st : Stp ρ F σ H ρ1 F1 σ1 H1) (h : RVt K ρ1 σ1 H1 F' H' σ' ρ' v r) : RVt K ρ σ H F' H' σ' ρ' v r := by
  cases r with
  | fz d => exact h
  | own ds =>
    obtain ⟨a, e, h1, h2, h3, h4⟩ := h
    refine ⟨a, e, h1, h2, h3, ?_⟩
    rcases h4 with q | q
    · exact .inl (st.dom a q)
    · exact st.ow a q
theorem EndsOk.after (st : Stp ρ F σ H ρ1 F1 σ1 H1) (ok : EndsOk K E D ρ F σ H) : EndsOk K E D ρ1 F1 σ1 H1 :=
  ⟨fun ρ' σ' F' H' q s r => ok.nx _ _ _ _ q (st.trans s) r, fun ρ' σ' F' H' q s r => ok.bk _ _ _ _ q (st.trans s) r, fun ρ' σ' F' H' q s r => ok.ct _ _ _ _ q (st.trans s) r,
    fun r ρ' v σ' F' H' q s sr h => ok.rt _ _ _ _ _ _ q (st.trans s) sr (h.back st)⟩
end
section
variable {X : Cx}
theorem ss_nil : PSs X [] (rdS X.K fun ρ E => E.nx ρ) := pss_nil.imp fun D σ H ⟨F, ρ, E, s, hw, ok⟩ => ok.nx _ _ _ _ hw .refl s
theorem ss_cons {st : Stmt} {rest : List Stmt} {w1 w2 : WS} (h1 : PS X st (rdS X.K w1)) (h2 : PSs X rest (rdS X.K w2)) :
    PSs X (st :: rest) (rdS X.K fun ρ E => w1 ρ { E with nx := fun ρ1 => w2 ρ1 E }) :=
  (pss_cons h1 h2).imp fun D σ H ⟨F, ρ, E, s, hw, ok⟩ => ⟨F, ρ, _, s, hw, ⟨fun ρ' σ' F' H' q st sr => ⟨F', ρ', E, sr, q, ok.after st⟩, ok.bk, ok.ct, ok.rt⟩⟩
theorem s_pass {pos : Pos} : PS X (.Pass pos) (rdS X.K fun ρ E => E.nx ρ) := ps_pass.imp fun D σ H ⟨F, ρ, E, s, hw, ok⟩ => ok.nx _ _ _ _ hw .refl s
theorem s_brk {pos : Pos} : PS X (.Break pos) (rdS X.K fun ρ E => E.bk ρ) := ps_break.imp fun D σ H ⟨F, ρ, E, s, hw, ok⟩ => ok.bk _ _ _ _ hw .refl s
theorem s_cnt {pos : Pos} : PS X (.Continue pos) (rdS X.K fun ρ E => E.ct ρ) := ps_continue.imp fun D σ H ⟨F, ρ, E, s, hw, ok⟩ => ok.ct _ _ _ _ hw .refl s
theorem RVr.rt {K : PySem.W.Frag} {H F' H' : Hp} {σ σ' : St} {ρ ρ' : Slots} {v : V} {r : RV} (h : RVr K H F' H' σ' ρ' v r) : RVt K ρ σ H F' H' σ' ρ' v r := by
  cases r with
  | fz d => exact h
  | own ds => obtain ⟨a, e, h1, h2, h3, h4⟩ := h; exact ⟨a, e, h1, h2, h3, .inl h4⟩
theorem s_ret {e : Expr} {w : WE} {pos : Pos} (h : PE X e (rdE X.K w)) : PS X (.Return (some e) pos) (rdS X.K fun ρ E => w ρ E.rt) :=
  (ps_ret h).imp fun D σ H ⟨F, ρ, E, s, hw, ok⟩ => ⟨F, ρ, _, s, hw, fun r ρ' v F' H' q st sr rv => ok.rt _ _ _ _ _ _ q st sr rv.rt⟩
/-- a slot that holds a list by itself lets it go -/
theorem SR.drop {K : PySem.W.Frag} {F H : Hp} {σ : St} {ρ : Slots} (s : SR K F H σ ρ) {i : Nat} {ds : List D} (h : ρ[i]? = some (.own ds)) :
    ∃ a, σ[i]? = some (some (.ref a)) ∧ LstR K F H a ds ∧ F a = none ∧ OwnA ρ σ a ∧ Stp ρ F σ H (ρ.set i .un) F σ H ∧ SR K F H σ (ρ.set i .un) ∧ ¬ Held (ρ.set i .un) σ a := by
  obtain ⟨o, ho, a, rfl, lr⟩ := slot_at s h
  have own : OwnL ρ σ i a := ⟨ds, h, ho⟩
  have backO : ∀ {j b}, OwnL (ρ.set i .un) σ j b → OwnL ρ σ j b ∧ i ≠ j := fun {j b} ⟨es, z1, z2⟩ => let ⟨n, z⟩ := set_at rfl z1 rfl; ⟨⟨es, z, z2⟩, n⟩
  have backB : ∀ {j b}, BorL (ρ.set i .un) σ j b → BorL ρ σ j b ∧ i ≠ j := fun {j b} ⟨es, z1, z2⟩ => let ⟨n, z⟩ := set_at rfl z1 rfl; ⟨⟨es, z, z2⟩, n⟩
  refine ⟨a, ho, lr, s.out a ⟨i, .inl own⟩, ⟨i, own⟩, ⟨fun _ _ h => h, fun _ _ h _ => h, fun _ h => .inl h, fun b ⟨j, hb⟩ => .inr ⟨j, (backO hb).1⟩, fun j b => ⟨fun hb => (backB hb).1, fun ⟨es, z1, z2⟩ => ?_⟩, fun _ h => h⟩, ?_, ?_⟩
  · by_cases e : i = j
    · subst e; rw [h] at z1; cases z1
    · exact ⟨es, by rw [get_set_ne e]; exact z1, z2⟩
  · refine ⟨by rw [List.length_set]; exact s.len, s.sub, fun j x o h1 h2 => ?_, fun j k b z1 z2 => ?_, fun b hb => s.out b (held_set rfl hb)⟩
    · by_cases e : i = j
      · subst e; rw [get_set_self h] at h1; cases h1; exact trivial
      · rw [get_set_ne e] at h1; exact s.slot j x o h1 h2
    · exact s.uniq j k b (z1.elim (fun z => .inl (backO z).1) fun z => .inr (backB z).1) (z2.elim (fun z => .inl (backO z).1) fun z => .inr (backB z).1)
  · rintro ⟨j, hb | hb⟩
    · exact (backO hb).2 (s.uniq i j a (.inl own) (.inl (backO hb).1))
    · exact (backB hb).2 (s.uniq i j a (.inl own) (.inr (backB hb).1))
/-- return x, x a name -/
theorem s_retV {i : Nat} {x : Str} {p pos : Pos} (hN : X.N[i]? = some x) (hv : Vis X.env.scope x) (hd : (x == ("__debug__" : Str)) = false) (hc : (x == ("__classdict__" : Str)) = false) :
    PS X (.Return (some (.Name x p)) pos) (rdS X.K fun ρ E => match ρ[i]? with
      | some (.own ds) => E.rt (.own ds) (ρ.set i .un)
      | some (.fz d) => E.rt (.fz d) ρ
      | _ => False) :=
  (ps_ret (pe_var hN hv hd hc)).imp fun D σ H ⟨F, ρ, E, s, hw, ok⟩ => by
    dsimp only at hw
    cases e : ρ[i]? with
    | none => rw [e] at hw; exact hw.elim
    | some z =>
      rw [e] at hw
      cases z with
      | un => exact hw.elim
      | bor ds => exact hw.elim
      | fz d =>
        obtain ⟨o, ho, v, rfl, h⟩ := slot_at s e
        exact ⟨v, ho, ok.rt _ _ _ _ _ _ hw .refl s h⟩
      | own ds =>
        obtain ⟨a, ho, lr, nF, oa, st, s', nh⟩ := s.drop e
        exact ⟨_, ho, ok.rt _ _ _ _ _ _ hw st s' ⟨a, rfl, lr, nF, nh, .inr oa⟩⟩
theorem s_retN {pos : Pos} : PS X (.Return none pos) (rdS X.K fun ρ E => E.rt (.fz .none) ρ) :=
  ps_retN.imp fun D σ H ⟨F, ρ, E, s, hw, ok⟩ => ok.rt _ _ _ _ _ _ hw .refl s .non
theorem s_expr {e : Expr} {w : WE} {pos : Pos} (h : PE X e (rdE X.K w)) (hs : swapsWith e none pos.line X.env = pure false) : PS X (.Expr e pos) (rdS X.K fun ρ E => w ρ fun _ ρ1 => E.nx ρ1) :=
  (ps_expr h hs).imp fun D σ H ⟨F, ρ, E, s, hw, ok⟩ => ⟨F, ρ, _, s, hw, fun r ρ' v F' H' q st sr _ => ok.nx _ _ _ _ q st sr⟩
theorem s_if {c : Expr} {a b : List Stmt} {wt : WT} {wa wb : WS} {pos : Pos} (hc : PT X c (rdT X.K wt)) (ha : PSs X a (rdS X.K wa)) (hb : PSs X b (rdS X.K wb)) :
    PS X (.If c a b pos) (rdS X.K fun ρ E => wt ρ fun k ρ1 => if k = true then wa ρ1 E else wb ρ1 E) :=
  (ps_if hc ha hb).imp fun D σ H ⟨F, ρ, E, s, hw, ok⟩ => ⟨F, ρ, _, s, hw, fun k ρ1 F1 H1 q st s1 => by
    dsimp only
    cases k with
    | true => rw [if_pos rfl] at q ⊢; exact ⟨F1, ρ1, E, s1, q, ok.after st⟩
    | false => rw [if_neg (by decide)] at q ⊢; exact ⟨F1, ρ1, E, s1, q, ok.after st⟩⟩
/-- target = value, by any reading of the value that the trees' run implies -/
theorem s_asgOf {st : Stmt} {w : WE} {te : TE} {t : TG} (h : PS X st (tAsg te (rdG X.K t))) (i : ∀ σ H Q, rdE X.K w σ H Q → te σ H Q) : PS X st (rdS X.K fun ρ E => w ρ fun r ρ1 => wpTG t r ρ1 E.nx) :=
  h.imp fun D σ H ⟨F, ρ, E, s, hw, ok⟩ => i _ _ _ ⟨F, ρ, _, s, hw, fun r ρ1 v F1 H1 q st s1 rv => ⟨ρ, F, σ, H, F1, ρ1, r, _, st, s1, rv, q, fun σ' ρ' q' st' s' _ => ok.nx _ _ _ _ q' st' s'⟩⟩
theorem s_asg {tg e : Expr} {w : WE} {t : TG} {pos : Pos} (h : PE X e (rdE X.K w)) (hg : PG X tg (rdG X.K t)) (hs : swapsWithSole [tg] e pos.line X.env = pure false) (hw : swappedStores [tg] e X.env = pure none)
    (h1 : (assignEach [tg] X.env).map (·.2) = [assign tg X.env]) : PS X (.Assign [tg] e pos) (rdS X.K fun ρ E => w ρ fun r ρ1 => wpTG t r ρ1 E.nx) :=
  s_asgOf (ps_asg h hg hs hw h1) fun _ _ _ h => h
/-- x[ix] = e, x a slot that holds a list -/
theorem g_sub {i : Nat} {x : Str} {p pos : Pos} {ix : Expr} {w : WE} (hN : X.N[i]? = some x) (hv : Vis X.env.scope x) (hd : (x == ("__debug__" : Str)) = false) (hc : (x == ("__classdict__" : Str)) = false) (h : PE X ix (rdE X.K w))
    (ha : ∀ v, assign (.Subscript (.Name x p) ix pos) X.env v = (do
      let ov ← holding [v] (eval (.Name x p) X.env)
      let iv ← holding [v, ov] (eval ix X.env)
      standAt pos
      holding [v, ov, iv] (setItem ov iv v)
      release [v, ov, iv] [])) :
    PG X (.Subscript (.Name x p) ix pos) (fun v σ H Q => ∃ (F : Hp) (ρ : Slots) (d : TL.D) (Qt : Slots → Prop), SR X.K F H σ ρ ∧ Rp X.K F v d ∧ (heldS ρ i (fun _ => True) ∧ w ρ fun r' ρ2 => asInt r'.d fun k => heldS ρ2 i fun ds => ∃ j, ixN ds.length k = some j ∧ Qt (setH ρ2 i (ds.set j d))) ∧
      ∀ ρ' F' H', Qt ρ' → Stp ρ F σ H ρ' F' σ H' → SR X.K F' H' σ ρ' → Q σ H') :=
  (pg_sub (pe_var hN hv hd hc) h.frz set_list ha).imp fun v σ H Q ⟨F, ρ, d, Qt, s, hv, ⟨hh, hw⟩, k⟩ => by
    obtain ⟨a, vs0, ds0, ho, hH, r0, _, _, _⟩ := s.write hh
    refine ⟨.ref a, ho, F, ρ, _, s, hw, fun r' ρ2 iv F2 H2 q2 st2 s2 rp => ?_⟩
    obtain ⟨kk, rfl, q⟩ := isI rp q2
    obtain ⟨a', vs, ds, ho', hH', r, ⟨j, hj, q⟩, _, up⟩ := s2.write q
    rw [ho] at ho'; cases ho'
    obtain ⟨st3, s3⟩ := up _ _ (Rps.set (hv.mono st2.fr) j r)
    exact ⟨a, vs, kk, j, rfl, rfl, hH', by rw [r.length]; exact hj, k _ _ _ q (st2.trans st3) s3⟩
theorem heldS_true {ρ : Slots} {i : Nat} {k : List D → Prop} (h : heldS ρ i k) : heldS ρ i (fun _ => True) := by
  obtain ⟨ds, _, e⟩ := heldS_look h
  exact (e _).mpr trivial
theorem s_sub {tg e : Expr} {i : Nat} {we wi : WE} {pos : Pos} (h : PE X e (rdE X.K we))
    (hg : PG X tg (fun v σ H Q => ∃ (F : Hp) (ρ : Slots) (d : TL.D) (Qt : Slots → Prop), SR X.K F H σ ρ ∧ Rp X.K F v d ∧ (heldS ρ i (fun _ => True) ∧ wi ρ fun r' ρ2 => asInt r'.d fun k => heldS ρ2 i fun ds => ∃ j, ixN ds.length k = some j ∧ Qt (setH ρ2 i (ds.set j d))) ∧
      ∀ ρ' F' H', Qt ρ' → Stp ρ F σ H ρ' F' σ H' → SR X.K F' H' σ ρ' → Q σ H'))
    (hs : swapsWithSole [tg] e pos.line X.env = pure false) (hw : swappedStores [tg] e X.env = pure none) (h1 : (assignEach [tg] X.env).map (·.2) = [assign tg X.env]) :
    PS X (.Assign [tg] e pos) (rdS X.K fun ρ E => we ρ fun r ρ1 => heldS ρ1 i (fun _ => True) ∧ wi ρ1 fun r' ρ2 => asInt r'.d fun k => heldS ρ2 i fun ds => ∃ j, ixN ds.length k = some j ∧ E.nx (setH ρ2 i (ds.set j r.d))) :=
  (ps_asg h.frz hg hs hw h1).imp fun D σ H ⟨F, ρ, E, s, hw, ok⟩ => ⟨F, ρ, _, s, hw, fun r ρ1 v F1 H1 q st s1 rp => ⟨F1, ρ1, r.d, _, s1, rp, q, fun ρ' F' H' q' st' s' => ok.nx _ _ _ _ q' (st.trans st') s'⟩⟩
/-- the store to a list's cell, as a reading -/
def rdSub (K : PySem.W.Frag) (i : Nat) (w : WE) : L2.TG := fun v σ H Q => ∃ (F : Hp) (ρ : Slots) (d : TL.D) (Qt : Slots → Prop), SR K F H σ ρ ∧ Rp K F v d ∧ subW i w d ρ Qt ∧
      ∀ ρ' F' H', Qt ρ' → Stp ρ F σ H ρ' F' σ H' → SR K F' H' σ ρ' → Q σ H'
def pairQ (r : RV) (k : TL.D → TL.D → Prop) : Prop := match r with
  | .fz (.tuple [d1, d2]) => k d1 d2
  | _ => False
theorem pairQ_is {r : RV} {k : TL.D → TL.D → Prop} (h : pairQ r k) : ∃ d1 d2, r = .fz (.tuple [d1, d2]) ∧ k d1 d2 := by
  unfold pairQ at h
  split at h
  · exact ⟨_, _, rfl, h⟩
  · exact h.elim
/-- x[j1], x[j2] = e1, e2 -/
theorem s_swp {st : Stmt} {i : Nat} {we1 we2 wj1 wj2 : WE}
    (h : PS X st (tAsg (rdE X.K fun ρ Q => we1 ρ fun r1 ρ1 => we2 ρ1 fun r2 ρ2 => [r1, r2].length ≤ sizeLine ∧ Q (.fz (.tuple ([r1, r2].map RV.d))) ρ2) (gTup X.K 2 (gCons (rdSub X.K i wj1) (gCons (rdSub X.K i wj2) gNil))))) :
    PS X st (rdS X.K fun ρ E => we1 ρ fun r1 ρ1 => we2 ρ1 fun r2 ρ2 => [r1, r2].length ≤ sizeLine ∧ subW i wj1 r1.d ρ2 fun ρ3 => subW i wj2 r2.d ρ3 E.nx) :=
  h.imp fun D σ H ⟨F, ρ, E, s, hw, ok⟩ => ⟨F, ρ, fun r ρ2 => pairQ r fun d1 d2 => subW i wj1 d1 ρ2 fun ρ3 => subW i wj2 d2 ρ3 E.nx, s, hw, fun r ρ2 v F2 H2 q st2 s2 rv => by
    obtain ⟨d1, d2, e, q'⟩ := pairQ_is q
    subst e
    clear q
    cases rv with
    | tup ha rr =>
      cases rr with
      | cons h1 rr =>
        cases rr with
        | cons h2 rr =>
          cases rr
          exact ⟨_, _, rfl, sqT_mono s2.sub ha, rfl, _, _, rfl, F2, ρ2, d1, _, s2, h1, q', fun ρ3 F3 H3 q3 st3 s3 => ⟨_, _, rfl, F3, ρ3, d2, _, s3, h2.mono st3.fr, q3, fun ρ4 F4 H4 q4 st4 s4 => ⟨rfl, ok.nx _ _ _ _ q4 ((st2.trans st3).trans st4) s4⟩⟩⟩⟩
/-- x[ix] op= e -/
def rGetL : V → V → Hp → VK → Prop := fun o i H Q => ∃ a xs k z, o = .ref a ∧ i = .int k ∧ H a = some (.lst xs) ∧ atI xs k = some z ∧ Q z H
theorem get_listX : PGet X rGetL := by
  intro pins s σ H o i ov iv Q I ro ri h
  obtain ⟨p, xs, i, z, rfl, rfl, hq, he, q⟩ := h
  cases ro
  obtain ⟨t, rfl⟩ := ri
  obtain ⟨its, r, pl, hz⟩ := I.list (SqL.of hq)
  obtain ⟨j, h1, h2, h3, h4, h5⟩ := atI_get he
  obtain ⟨w, ew, rw'⟩ := r.get h2
  have hl := r.length
  have hn := line63
  have fin : EP X pins σ Q w s := ⟨z, H, I, rw', q⟩
  by_cases h0 : 0 ≤ i
  · have hj : i.toNat = j := by
      rw [seqIndex_of h0 h5] at h1
      exact Option.some.inj h1
    exact wpAny_getItem_list pl.isList h0 (by omega) (by rw [hj]; simpa using ew) fin
  · have hj : (i + (its.toArray.size : Int)).toNat = j := by
      rw [seqIndex_neg (by omega) h4] at h1
      rw [List.size_toArray, ← hl]
      exact Option.some.inj h1
    exact wpAny_getItem_list_neg pl.isList (by omega) (by rw [List.size_toArray] <;> omega) (by omega) (by rw [hj]; simpa using ew) fin
theorem wpAug_int {o : Operator} {x y : TL.D} {Q : VQ} (h : wpAug o x y Q) : wpAug o x y fun z => Q z ∧ ∃ i, z = .fz (.int i) := by
  unfold wpAug at h ⊢
  split at h
  · exact ⟨h, _, rfl⟩
  · exact ⟨h, _, rfl⟩
  · exact ⟨h.1, h.2, _, rfl⟩
  · exact h.elim
theorem atI_rps {K : PySem.W.Frag} {F : Hp} {vs : List V} {ds : List TL.D} {k : Int} {d : TL.D} (r : Rps K F vs ds) (h : atI ds k = some d) : ∃ v, atI vs k = some v ∧ Rp K F v d := by
  unfold atI at h ⊢
  rw [r.length]
  cases e : ixN ds.length k with
  | none => rw [e] at h; cases h
  | some j =>
    rw [e] at h
    exact r.get h
theorem s_augs {st : Stmt} {i : Nat} {wi we : WE} {o : Operator} (h : PS X st (tAugS (tVar i) (rdF X.K wi) (rdF X.K we) rGetL (gv2 X.K (wpAug o)) rSetL)) :
    PS X st (rdS X.K fun ρ E => heldS ρ i (fun _ => True) ∧ wi ρ fun rk ρ1 => asInt rk.d fun k => heldS ρ1 i fun ds => ∃ d, atI ds k = some d ∧ we ρ1 fun r ρ2 => wpAug o d r.d fun z => heldS ρ2 i fun ds => ∃ j, ixN ds.length k = some j ∧ E.nx (setH ρ2 i (ds.set j z.d))) :=
  h.imp fun D σ H ⟨F, ρ, E, s, ⟨hh, hw⟩, ok⟩ => by
    obtain ⟨a, vs0, ds0, ho, hH, r0, _, _, _⟩ := s.write hh
    refine ⟨.ref a, ho, F, ρ, _, s, hw, fun rk ρ1 iv F1 H1 q1 st1 s1 rp1 => ?_⟩
    obtain ⟨kk, rfl, q⟩ := isI rp1 q1
    obtain ⟨a', vs, ds, ho', hH', r, ⟨d, hd, q⟩, _, _⟩ := s1.write q
    rw [ho] at ho'; cases ho'
    obtain ⟨v, hv, rv⟩ := atI_rps r hd
    refine ⟨a, vs, kk, v, rfl, rfl, hH', hv, F1, ρ1, _, s1, q, fun r2 ρ2 y F2 H2 q2 st2 s2 rp2 => ?_⟩
    refine ⟨F2, d, r2.d, _, s2.sub, .inl (rv.mono st2.fr), .inl rp2, wpAug_int q2, fun z zv F3 H3 ⟨q3, i3, e3⟩ g => ?_⟩
    subst e3
    cases g with
    | old g =>
      obtain ⟨a', vs, ds, ho', hH', r, ⟨j, hj, q⟩, _, up⟩ := s2.write q3
      rw [ho] at ho'; cases ho'
      obtain ⟨st4, s4⟩ := up _ _ (Rps.set g j r)
      exact ⟨a, vs, kk, j, rfl, rfl, hH', by rw [r.length]; exact hj, ok.nx _ _ _ _ q ((st1.trans st2).trans st4) s4⟩
/-- x.append(e) -/
theorem s_app {st : Stmt} {i : Nat} {w : WE} (h : PS X st (tDrop (tBM X.K "list" rAppend (tVar i) (tCons (rdF X.K w) tNil)))) :
    PS X st (rdS X.K fun ρ E => heldS ρ i (fun _ => True) ∧ w ρ fun r ρ1 => heldS ρ1 i fun ds => ds.length < sizeLine ∧ E.nx (setH ρ1 i (ds ++ [r.d]))) :=
  h.imp fun D σ H ⟨F, ρ, E, s, ⟨hh, hw⟩, ok⟩ => by
    obtain ⟨a, vs0, ds0, ho, hH, r0, _, _, _⟩ := s.write hh
    refine ⟨.ref a, ho, .inl ⟨rfl, vs0, SqL.of hH⟩, F, ρ, _, s, hw, fun r ρ1 v F1 H1 q1 st1 s1 rp => ?_⟩
    obtain ⟨a', vs, ds, ho', hH', r, ⟨hl, q⟩, _, up⟩ := s1.write q1
    rw [ho] at ho'; cases ho'
    obtain ⟨st3, s3⟩ := up _ _ (r.append (.one rp))
    exact ⟨a, vs, v, rfl, rfl, hH', by rw [r.length]; exact hl, ok.nx _ _ _ _ q (st1.trans st3) s3⟩
/-- x op= e -/
theorem s_aug {st : Stmt} {i : Nat} {w : WE} {o : Operator} (h : PS X st (tAug i (rdF X.K w) (gv2 X.K (wpAug o)))) :
    PS X st (rdS X.K fun ρ E => wpVar i ρ fun r ρ1 => w ρ1 fun r' ρ2 => wpAug o r.d r'.d fun z => canSet ρ2 i ∧ E.nx (ρ2.set i z.sl)) :=
  h.imp fun D σ H ⟨F, ρ, E, s, hw, ok⟩ => by
    have core : ∀ (d : TL.D) (v : V) (F1 : Hp) (ρ1 : Slots), σ[i]? = some (some v) → Rp X.K F1 v d → Stp ρ F σ H ρ1 F1 σ H → SR X.K F1 H σ ρ1 → (w ρ1 fun r' ρ2 => wpAug o d r'.d fun z => canSet ρ2 i ∧ E.nx (ρ2.set i z.sl)) →
        tAug i (rdF X.K w) (gv2 X.K (wpAug o)) D σ H := fun d v F1 ρ1 ho rp st1 s1 hw => ⟨v, ho, F1, ρ1, _, s1, hw, fun r' ρ2 y F2 H2 q2 st2 s2 ry => ⟨F2, d, r'.d, _, s2.sub, .inl (rp.mono st2.fr), .inl ry, q2, fun z zv F' H' q g => by
      obtain ⟨st3, s3, rv⟩ := g.step s2
      have base := (st1.trans st2).trans st3
      obtain ⟨st4, s4⟩ := s3.store base q.1 (rv.back fun a h => (st1.trans st2).dom a h)
      exact ok.nx _ _ _ _ q.2 st4 s4⟩⟩
    unfold wpVar at hw
    dsimp only at hw
    cases e : ρ[i]? with
    | none => rw [e] at hw; exact hw.elim
    | some z =>
      rw [e] at hw
      cases z with
      | un => exact hw.elim
      | bor ds => exact hw.elim
      | fz d =>
        obtain ⟨o', ho, v, rfl, h⟩ := slot_at s e
        exact core d v F ρ ho h .refl s hw
      | own ds =>
        obtain ⟨F', v, ho, st, s', h⟩ := s.frzSlot e
        exact core _ v F' _ ho h st s' hw

/-! ### loops -/
theorem s_for {tg iter : Expr} {body : List Stmt} {t : TG} {wi : WI} {wb : WS} {pos : Pos} (hp : PassesOwn (model X.prog X.w) X.A X.env X.xe) (hc : X.calm = true) (hi : PI X tg iter (rdI X.K wi)) (hg : PG X tg (rdG X.K t)) (hb : PSs X body (rdS X.K wb))
    (hs : ∀ x, foldedSetIterable iter X.env x = pure x) : PS X (.For tg iter body [] pos) (rdS X.K fun ρ E => wi ρ fun ds ρ1 => forGo t wb ds ρ1 E) :=
  (ps_for hp hc hi hg hb hs).imp fun D σ H ⟨F, ρ, E, s, hw, ok⟩ => ⟨F, ρ, _, s, hw, fun ds ρ1 J F1 H1 hgo st1 s1 wk => by
    refine ⟨fun i m σ2 H2 => m = ds.length - i ∧ i ≤ ds.length ∧ ∃ F2 ρ2, Stp ρ F σ H ρ2 F2 σ2 H2 ∧ Same F1 F2 ∧ SR X.K F2 H2 σ2 ρ2 ∧ forGo t wb (ds.drop i) ρ2 E, ⟨ds.length, rfl, Nat.zero_le _, F1, ρ1, st1, fun _ _ h => h, s1, by rw [List.drop_zero]; exact hgo⟩, ?_⟩
    rintro i m σ2 H2 ⟨rfl, hi, F2, ρ2, st2, e2, s2, go⟩
    by_cases hlt : i < ds.length
    · refine .inr ⟨wk.go i F2 H2 e2 s2.sub hlt, fun σ' H' => (i + 1 ≤ ds.length) ∧ ∃ F2 ρ2, Stp ρ F σ H ρ2 F2 σ' H' ∧ Same F1 F2 ∧ SR X.K F2 H' σ' ρ2 ∧ forGo t wb (ds.drop (i + 1)) ρ2 E, fun σ' H' hN => ⟨ds.length - (i + 1), by omega, rfl, hN⟩, fun x H' hy => ?_⟩
      rw [List.drop_eq_getElem_cons hlt] at go
      obtain ⟨F', gv⟩ := wk.yld i F2 H2 x H' _ e2 s2.sub (List.getElem?_eq_getElem hlt) hy
      obtain ⟨st3, s3, rv⟩ := gv.step s2
      refine ⟨_, _, _, _, F', ρ2, .fz _, _, st3, s3, rv, go, fun σ4 ρ4 q4 st4 s4 _ => ⟨F', ρ4, _, s4, q4, ?_⟩⟩
      have ok4 := ok.after (st2.trans st4)
      have keep : ∀ {ρ' σ' F'' H''}, Stp ρ4 F' σ4 H' ρ' F'' σ' H'' → SR X.K F'' H'' σ' ρ' → forGo t wb (ds.drop (i + 1)) ρ' E → (i + 1 ≤ ds.length) ∧ ∃ F2 ρ2, Stp ρ F σ H ρ2 F2 σ' H'' ∧ Same F1 F2 ∧ SR X.K F2 H'' σ' ρ2 ∧ forGo t wb (ds.drop (i + 1)) ρ2 E :=
        fun {ρ' σ' F'' H''} st sr q => ⟨by omega, F'', ρ', (st2.trans st4).trans st, e2.trans (st4.fr.trans st.fr), sr, q⟩
      exact ⟨fun ρ' σ' F'' H'' q st sr => keep st sr q, fun ρ' σ' F'' H'' q st sr => ok4.nx _ _ _ _ q st sr, fun ρ' σ' F'' H'' q st sr => keep st sr q, ok4.rt⟩
    · have ei : i = ds.length := by omega
      subst ei
      rw [List.drop_length] at go
      exact .inl ⟨wk.stop F2 H2 e2 s2.sub, ok.nx _ _ _ _ go st2 s2⟩⟩
theorem s_while {c : Expr} {body : List Stmt} {wt : WT} {wb : WS} {pos : Pos} (hp : PassesOwn (model X.prog X.w) X.A X.env X.xe) (hc : PT X c (rdT X.K wt)) (hb : PSs X body (rdS X.K wb)) :
    PS X (.While c body [] pos) (rdS X.K fun ρ E => ∃ n, whGo wt wb n ρ E) :=
  (ps_while hp hc hb).imp fun D σ H ⟨F, ρ, E, s, ⟨n, hw⟩, ok⟩ => by
    refine ⟨fun m σ2 H2 => ∃ F2 ρ2, Stp ρ F σ H ρ2 F2 σ2 H2 ∧ SR X.K F2 H2 σ2 ρ2 ∧ whGo wt wb m ρ2 E, ⟨n, F, ρ, .refl, s, hw⟩, ?_⟩
    rintro m σ2 H2 ⟨F2, ρ2, st2, s2, go⟩
    cases m with
    | zero => exact (show False from go).elim
    | succ m =>
      refine ⟨F2, ρ2, _, s2, go, fun b ρ3 F3 H3 q st3 s3 => ?_⟩
      dsimp only
      have ok3 := ok.after (st2.trans st3)
      cases b with
      | false => rw [if_neg (by decide)] at q ⊢; exact ok3.nx _ _ _ _ q .refl s3
      | true =>
        rw [if_pos rfl] at q ⊢
        refine ⟨fun σ' H' => ∃ F2 ρ2, Stp ρ F σ H ρ2 F2 σ' H' ∧ SR X.K F2 H' σ' ρ2 ∧ whGo wt wb m ρ2 E, fun σ' H' hN => ⟨m, Nat.lt_succ_self _, hN⟩, F3, ρ3, _, s3, q, ?_⟩
        exact ⟨fun ρ' σ' F'' H'' q st sr => ⟨F'', ρ', (st2.trans st3).trans st, sr, q⟩, fun ρ' σ' F'' H'' q st sr => ok3.nx _ _ _ _ q st sr, fun ρ' σ' F'' H'' q st sr => ⟨F'', ρ', (st2.trans st3).trans st, sr, q⟩, ok3.rt⟩
end
end TL
end
section
set_option autoImplicit false
set_option maxHeartbeats 1000000
/-! TL11: small facts of the syntax; comparisons as tests; several names at once -/
namespace TL
open PySem PySem.Spec PyProof.Rows L2

/-! ### syntax -/
def starB : Expr → Bool
  | .Starred _ _ => true
  | _ => false
theorem star_cons {e : Expr} (h : starB e = false) (es : List Expr) (env : PySem.Env) : starEach (e :: es) env = (false, eval e env) :: starEach es env := by
  cases e <;> first | rfl | exact nomatch h
theorem asg_cons {e : Expr} (h : starB e = false) (es : List Expr) (env : PySem.Env) : assignEach (e :: es) env = (false, assign e env) :: assignEach es env := by
  cases e <;> first | rfl | exact nomatch h
theorem star_plain (pos : Pos) (env : PySem.Env) : ∀ es : List Expr, es.all (fun e => !starB e) = true → (backTo pos (starEach es env)).any (·.1) = false
  | [], _ => rfl
  | e :: es, h => by
    rw [List.all_cons, Bool.and_eq_true] at h
    rw [star_cons (by simpa using h.1)]
    have := star_plain pos env es h.2
    unfold backTo at this ⊢
    rw [List.map_cons, List.any_cons, this]
    rfl
theorem asg_find (env : PySem.Env) : ∀ es : List Expr, es.all (fun e => !starB e) = true → (assignEach es env).findIdx? (·.1) = none
  | [], _ => rfl
  | e :: es, h => by
    rw [List.all_cons, Bool.and_eq_true] at h
    rw [asg_cons (by simpa using h.1), List.findIdx?_cons, asg_find env es h.2]
    rfl
def sliceB : Expr → Bool
  | .Slice _ _ _ _ => true
  | _ => false
theorem plainIx_of {b : Expr} (h : sliceB b = false) : PlainIx b := fun o i => by
  cases b <;> first | rfl | exact nomatch h
theorem sub_assign {o i : Expr} {pos : Pos} (env : PySem.Env) (h : sliceB i = false) (v : Value) : assign (.Subscript o i pos) env v = (do
      let ov ← holding [v] (eval o env)
      let iv ← holding [v, ov] (eval i env)
      standAt pos
      holding [v, ov, iv] (setItem ov iv v)
      release [v, ov, iv] []) := by
  cases i <;> first | rfl | exact nomatch h
theorem aug_store {i : Expr} (h : sliceB i = false) (ov iv new : Value) : augStore i ov iv new = (do holding [new, ov, iv] (setItem ov iv new); release [new, ov, iv] []; pure .next) := by
  cases i <;> first | rfl | exact nomatch h
def setB : Expr → Bool
  | .Set _ _ _ => true
  | _ => false
theorem noSet_it {e : Expr} (h : setB e = false) (env : PySem.Env) (x : Value) : foldedSetIterable e env x = pure x := by
  cases e <;> first | rfl | exact nomatch h
theorem noSet_mark {e : Expr} (h : setB e = false) (o : CmpOp) : behindInMarks o e = false := by
  cases e <;> first | rfl | exact nomatch h
def compB : Expr → Bool
  | .ListComp _ _ _ _ => true
  | .SetComp _ _ _ _ => true
  | .DictComp _ _ _ _ _ => true
  | _ => false
theorem noComp_sw {e : Expr} (h : compB e = false) (t : Option Expr) (l : Nat) (env : PySem.Env) : swapsWith e t l env = pure false := by
  cases e <;> first | rfl | exact nomatch h
/-- an expression whose test is its value's truth -/
def plainT : Expr → Bool
  | .UnaryOp .Not _ _ => false
  | .BoolOp _ _ _ => false
  | .IfExp _ _ _ _ => false
  | .Compare _ _ _ _ => false
  | _ => true
theorem plain_true {e : Expr} (h : plainT e = true) (env : PySem.Env) (whole : Sem Value) : isTrue e env whole = (do let v ← whole; standAt e.pos; holding [v] (truthy v)) := by
  cases e with
  | UnaryOp op x p => cases op <;> first | rfl | exact nomatch h
  | BoolOp op vs p => exact nomatch h
  | IfExp a b c p => exact nomatch h
  | Compare a b c p => exact nomatch h
  | _ => rfl

/-! ### comparisons give True or False -/
theorem wpCmp_bool {o : CmpOp} {x y : D} {Q : D → Prop} (h : wpCmp o x y Q) : wpCmp o x y fun d => (∃ b, d = .bool b) ∧ Q d := by
  cases o with
  | Eq => exact ⟨h.1, ⟨_, rfl⟩, h.2⟩
  | NotEq => exact ⟨h.1, ⟨_, rfl⟩, h.2⟩
  | In =>
    cases y with
    | list ys => exact ⟨h.1, h.2.1, ⟨_, rfl⟩, h.2.2⟩
    | tuple ys => exact ⟨h.1, h.2.1, ⟨_, rfl⟩, h.2.2⟩
    | _ => exact (show False from h).elim
  | NotIn =>
    cases y with
    | list ys => exact ⟨h.1, h.2.1, ⟨_, rfl⟩, h.2.2⟩
    | tuple ys => exact ⟨h.1, h.2.1, ⟨_, rfl⟩, h.2.2⟩
    | _ => exact (show False from h).elim
  | _ =>
    unfold wpCmp at h ⊢
    dsimp only at h ⊢
    split at h <;> first | exact h.elim | exact ⟨⟨_, rfl⟩, h⟩ | exact ⟨h.1, h.2.1, ⟨_, rfl⟩, h.2.2⟩
section
variable {X : Cx}
theorem t_cmp (hu : X.A.units + 64 < cLine) {a b : Expr} {o : CmpOp} {wa wb : WO} {pos : Pos} (ha : PE X a (rdO X.K wa)) (hb : PE X b (rdO X.K wb)) (hm : behindInMarks o b = false) :
    PT X (.Compare a [o] [b] pos) (rdT X.K fun ρ Q => wa ρ fun oa ρ1 => wb ρ1 fun ob ρ2 => lk ρ2 oa fun x => lk ρ2 ob fun y => wpCmp o x y fun d => wpTru d fun k => Q k ρ2) :=
  (pt_cmpR (op_cmp hu o) ha hb hm).imp fun σ H Q ⟨F, ρ, Qt, s, hw, k⟩ => ⟨F, ρ, _, s, hw, fun oa ρ1 v1 F1 H1 q1 st1 s1 r1 => ⟨F1, ρ1, _, s1, q1, fun ob ρ2 v2 F2 H2 q2 st2 s2 r2 => by
    obtain ⟨dx, hx, q⟩ := (r1.mono st2.fr).look s2 q2
    obtain ⟨dy, hy, q⟩ := r2.look s2 q
    exact ⟨F2, dx, dy, _, s2.sub, hx, hy, wpCmp_bool q, fun d v ⟨⟨b, e⟩, q⟩ h => by
      subst e; cases h
      exact ⟨b, rfl, k _ _ _ _ q (st1.trans st2) s2⟩⟩⟩⟩
theorem t_chn (hu : X.A.units + 64 < cLine) {a b c : Expr} {o o' : CmpOp} {wa wb wc : WO} {pos : Pos} (ha : PE X a (rdO X.K wa)) (hb : PE X b (rdO X.K wb)) (hc : PE X c (rdO X.K wc)) (hm : lastMarks [o, o'] [b, c] = false) :
    PT X (.Compare a [o, o'] [b, c] pos) (rdT X.K fun ρ Q => wa ρ fun oa ρ1 => wb ρ1 fun ob ρ2 => lk ρ2 oa fun x => lk ρ2 ob fun y => wpCmp o x y fun d => asBool d fun k =>
      if k = true then wc ρ2 fun oc ρ3 => lk ρ3 ob fun y' => lk ρ3 oc fun z => wpCmp o' y' z fun d' => wpTru d' fun k => Q k ρ3 else Q false ρ2) :=
  (pt_chain (op_cmp hu o) (op_cmp hu o') ha hb hc hm).imp fun σ H Q ⟨F, ρ, Qt, s, hw, k⟩ => ⟨F, ρ, _, s, hw, fun oa ρ1 v1 F1 H1 q1 st1 s1 r1 => ⟨F1, ρ1, _, s1, q1, fun ob ρ2 v2 F2 H2 q2 st2 s2 r2 => by
    obtain ⟨dx, hx, q⟩ := (r1.mono st2.fr).look s2 q2
    obtain ⟨dy, hy, q⟩ := r2.look s2 q
    refine ⟨F2, dx, dy, _, s2.sub, hx, hy, q, fun d v q h => ?_⟩
    cases d <;> first | exact (show False from q).elim | skip
    rename_i c
    cases h
    refine ⟨c, rfl, ?_⟩
    have q' : if c = true then _ else _ := q
    cases c with
    | false =>
      rw [if_neg (by decide)] at q' ⊢
      exact ⟨_, rfl, k _ _ _ _ q' (st1.trans st2) s2⟩
    | true =>
      rw [if_pos rfl] at q' ⊢
      refine ⟨F2, ρ2, _, s2, q', fun oc ρ3 v3 F3 H3 q3 st3 s3 r3 => ?_⟩
      obtain ⟨dy', hy', q⟩ := (r2.mono st3.fr).look s3 q3
      obtain ⟨dz, hz, q⟩ := r3.look s3 q
      exact ⟨F3, dy', dz, _, s3.sub, hy', hz, wpCmp_bool q, fun d v ⟨⟨b, e⟩, q⟩ h => by
        subst e; cases h
        exact ⟨b, rfl, k _ _ _ _ q ((st1.trans st2).trans st3) s3⟩⟩⟩⟩

/-! ### several names at once -/
theorem held_store {ρ : Slots} {σ : St} {i : Nat} {r : RV} {v : V} {b : Addr} (h : Held (ρ.set i r.sl) (σ.set i (some v)) b) : Held ρ σ b ∨ ((∃ ds, r = .own ds) ∧ v = .ref b) := by
  obtain ⟨j, h⟩ := h
  by_cases e : i = j
  · subst e
    rcases h with ⟨ds, z1, z2⟩ | ⟨ds, z1, z2⟩
    · rw [List.getElem?_set_self'] at z1 z2
      cases e1 : ρ[i]? with
      | none => rw [e1] at z1; cases z1
      | some z =>
        rw [e1] at z1
        cases e2 : σ[i]? with
        | none => rw [e2] at z2; cases z2
        | some y =>
          rw [e2] at z2
          have z1' : r.sl = .own ds := Option.some.inj z1
          have z2' : some v = some (.ref b) := Option.some.inj z2
          cases z2'
          cases r with
          | fz d => cases z1'
          | own es => exact .inr ⟨⟨es, rfl⟩, rfl⟩
    · rw [List.getElem?_set_self'] at z1
      cases e1 : ρ[i]? with
      | none => rw [e1] at z1; cases z1
      | some z =>
        rw [e1] at z1
        have z1' : r.sl = .bor ds := Option.some.inj z1
        cases r <;> cases z1'
  · rcases h with ⟨ds, z1, z2⟩ | ⟨ds, z1, z2⟩
    · rw [get_set_ne e] at z1 z2; exact .inl ⟨j, .inl ⟨ds, z1, z2⟩⟩
    · rw [get_set_ne e] at z1 z2; exact .inl ⟨j, .inr ⟨ds, z1, z2⟩⟩
def setAllV (σ : St) (is : List Nat) (vs : List V) : St := (is.zip vs).foldl (fun σ p => σ.set p.1 (some p.2)) σ
theorem canSet_set {ρ : Slots} {i j : Nat} {r : RV} (h : canSet ρ j) : canSet (ρ.set i r.sl) j := by
  obtain ⟨z, hz, nb⟩ := canSet_lt h
  unfold canSet
  by_cases e : i = j
  · subst e
    rw [get_set_self hz]
    cases r <;> exact trivial
  · rw [get_set_ne e, hz]
    cases z <;> first | exact trivial | exact absurd rfl (nb _)
theorem RVrs.onStore {K : PySem.W.Frag} {F H H0 : Hp} {σ : St} {ρ : Slots} {i : Nat} {r : RV} {v : V} : ∀ {vs : List V} {rs : List RV}, RVrs K H0 F H σ ρ vs rs → (∀ ds, r = .own ds → ∀ (j : Nat) es, rs[j]? = some (.own es) → vs[j]? ≠ some v) → RVrs K H0 F H (σ.set i (some v)) (ρ.set i r.sl) vs rs
  | [], [], _, _ => trivial
  | w :: ws, q :: qs, ⟨g1, g2, g3⟩, n => by
    refine ⟨?_, RVrs.onStore g2 fun ds e j es z => by simpa using n ds e (j + 1) es (by simpa using z), g3⟩
    cases q with
    | fz d => exact g1
    | own ds =>
      obtain ⟨a, e, k1, k2, k3, k4⟩ := g1
      refine ⟨a, e, k1, k2, fun hh => ?_, k4⟩
      rcases held_store hh with z | ⟨⟨es, z⟩, z2⟩
      · exact k3 z
      · exact n es z 0 ds (by simp) (by simp [e, z2])
theorem SR.storeAll {K : PySem.W.Frag} {F H F0 H0 : Hp} {σ0 : St} {ρ0 : Slots} (is : List Nat) : ∀ {vs : List V} {rs : List RV} {σ : St} {ρ : Slots}, Stp ρ0 F0 σ0 H0 ρ F σ H → SR K F H σ ρ → RVrs K H0 F H σ ρ vs rs → rs.length = is.length → (∀ m ∈ is, canSet ρ m) →
    Stp ρ0 F0 σ0 H0 ((is.zip rs).foldl (fun ρ p => ρ.set p.1 p.2.sl) ρ) F (setAllV σ is vs) H ∧ SR K F H (setAllV σ is vs) ((is.zip rs).foldl (fun ρ p => ρ.set p.1 p.2.sl) ρ) := by
  induction is with
  | nil => intro vs rs σ ρ st s _ _ _; exact ⟨st, s⟩
  | cons i is ih =>
    intro vs rs σ ρ st s h hl hc
    cases rs with
    | nil => exact nomatch hl
    | cons r rs =>
      cases vs with
      | nil => exact (show False from h).elim
      | cons v vs =>
        obtain ⟨h1, h2, h3⟩ := h
        obtain ⟨st1, s1⟩ := s.store st (hc i List.mem_cons_self) h1
        exact ih st1 s1 (h2.onStore h3) (Nat.succ.inj hl) fun j hj => canSet_set (hc j (List.mem_cons_of_mem _ hj))
/-- the names at places, as a target -/
def gAll (is : List Nat) : L2.TGs := fun vs σ H Q => vs.length = is.length ∧ Q (setAllV σ is vs) H
theorem pg_all_nil : PGs X [] (gAll []) := pgs_nil.imp fun vs σ H Q ⟨e, q⟩ => ⟨List.length_eq_zero_iff.mp e, by
  have := List.length_eq_zero_iff.mp e
  subst this; exact q⟩
theorem pg_all_cons {i : Nat} {x : Str} {p : Pos} {es : List Expr} {is : List Nat} (hN : X.N.Nodup) (hi : X.N[i]? = some x) (hx : Loc X.env.scope x) (hf : X.fn x = true ∨ X.env.scope.names.lookup x = some .local) (h : PGs X es (gAll is)) :
    PGs X (.Name x p :: es) (gAll (i :: is)) :=
  (pgs_cons (pg_name hN hi hx hf) h).imp fun vs σ H Q ⟨e, q⟩ => by
    cases vs with
    | nil => exact nomatch e
    | cons v vs => exact ⟨v, vs, rfl, Nat.succ.inj e, q⟩
/-- a, b, .. = e, f, ..: by way of the tuple -/
theorem s_parT {st : Stmt} {is : List Nat} {w : WEs} (h : PS X st (tAsg (tTup (rdA X.K w)) (gTup X.K is.length (gAll is)))) (hl : is.length ≤ sizeLine) :
    PS X st (rdS X.K fun ρ E => w ρ fun rs ρ1 => rs.length = is.length ∧ (∀ i ∈ is, canSet ρ1 i) ∧ E.nx ((is.zip rs).foldl (fun ρ p => ρ.set p.1 p.2.sl) ρ1)) :=
  h.imp fun D σ H ⟨F, ρ, E, s, hw, ok⟩ => ⟨F, ρ, _, s, hw, fun rs ρ1 vs F1 H1 ⟨h1, h2, q⟩ st1 s1 rv => by
    have lv : vs.length = is.length := rv.length.trans h1
    refine ⟨by rw [lv]; exact hl, fun p np => ?_⟩
    obtain ⟨st2, s2⟩ := s1.laid (o := .tup vs) np
    obtain ⟨st3, s3⟩ := SR.storeAll is (st1.trans st2) s2 (rv.carry st2) h1 h2
    exact ⟨p, vs, rfl, SqT.of upd_same, lv, lv, ok.nx _ _ _ _ q st3 s3⟩⟩
/-- .. stored from the right -/
theorem s_par2 {st : Stmt} {i j : Nat} {w : WEs} (h : PS X st (tPar i j (rdA X.K w))) :
    PS X st (rdS X.K fun ρ E => w ρ fun rs ρ1 => rs.length = [i, j].length ∧ (∀ m ∈ [i, j], canSet ρ1 m) ∧ E.nx (([i, j].zip rs).foldl (fun ρ p => ρ.set p.1 p.2.sl) ρ1)) :=
  h.imp fun D σ H ⟨F, ρ, E, s, hw, ok⟩ => ⟨F, ρ, _, s, hw, fun rs ρ1 vs F1 H1 ⟨h1, h2, q⟩ st1 s1 rv => by
    obtain ⟨st3, s3⟩ := SR.storeAll _ st1 s1 rv h1 h2
    have lv : vs.length = 2 := rv.length.trans h1
    match vs, lv with
    | [a, b], _ => exact ⟨a, b, rfl, ok.nx _ _ _ _ q st3 s3⟩⟩
theorem s_par3 {st : Stmt} {i j l : Nat} {w : WEs} (h : PS X st (tPar3 i j l (rdA X.K w))) :
    PS X st (rdS X.K fun ρ E => w ρ fun rs ρ1 => rs.length = [i, j, l].length ∧ (∀ m ∈ [i, j, l], canSet ρ1 m) ∧ E.nx (([i, j, l].zip rs).foldl (fun ρ p => ρ.set p.1 p.2.sl) ρ1)) :=
  h.imp fun D σ H ⟨F, ρ, E, s, hw, ok⟩ => ⟨F, ρ, _, s, hw, fun rs ρ1 vs F1 H1 ⟨h1, h2, q⟩ st1 s1 rv => by
    obtain ⟨st3, s3⟩ := SR.storeAll _ st1 s1 rv h1 h2
    have lv : vs.length = 3 := rv.length.trans h1
    match vs, lv with
    | [a, b, c], _ => exact ⟨a, b, c, rfl, ok.nx _ _ _ _ q st3 s3⟩⟩
end

/-! ### whether a tuple's stores are swapped -/
def parIds (sc : Scope) (l : Nat) (ts : List Expr) : List Str := ts.filterMap fun
    | .Name id pos => if sc.names.lookup id == some .local && pos.line == l then some id else none
    | _ => none
def headLine (ts : List Expr) : Nat := (ts.head?.map (·.pos.line)).getD 0
/-- some true: swapped; some false: by way of the tuple -/
def parHow (sc : Scope) (ts vs : List Expr) : Option Bool :=
  if !(ts.length == 2 || ts.length == 3) || vs.length != ts.length then some false
  else if vs.any starB then some false
  else if (parIds sc (headLine ts) ts).length != ts.length || (parIds sc (headLine ts) ts).eraseDups.length != (parIds sc (headLine ts) ts).length then some false
  else if vs.all (foldedForSure 8) then some false
  else if vs.all (constantsAlone 8) then none
  else some true
theorem parHow_ok {env : PySem.Env} {ts vs : List Expr} {k k' : Nat} {p p' : Pos} {b : Bool} (hk : env.scope.kind = .function) (h : parHow env.scope ts vs = some b) :
    swappedStores [.Tuple ts k p] (.Tuple vs k' p') env = pure (if b then some (parIds env.scope (headLine ts) ts) else none) := by
  have hb : env.blockKind = .function := by unfold Env.blockKind; rw [hk]; rfl
  unfold parHow at h
  unfold swappedStores
  simp only [hb]
  by_cases c1 : (!(ts.length == 2 || ts.length == 3) || vs.length != ts.length) = true
  · rw [if_pos c1] at h
    cases h
    exact if_pos (by rw [Bool.or_eq_true]; exact .inl c1)
  · rw [if_neg c1] at h
    refine (if_neg (by rw [Bool.or_eq_true]; rintro (q | q); exact c1 q; exact nomatch q)).trans ?_
    by_cases c2 : vs.any starB = true
    · rw [if_pos c2] at h
      cases h
      exact if_pos c2
    · rw [if_neg c2] at h
      refine (if_neg c2).trans ?_
      by_cases c3 : ((parIds env.scope (headLine ts) ts).length != ts.length || (parIds env.scope (headLine ts) ts).eraseDups.length != (parIds env.scope (headLine ts) ts).length) = true
      · rw [if_pos c3] at h
        cases h
        exact if_pos c3
      · rw [if_neg c3] at h
        refine (if_neg c3).trans ?_
        by_cases c4 : vs.all (foldedForSure 8) = true
        · rw [if_pos c4] at h
          cases h
          exact if_pos c4
        · rw [if_neg c4] at h
          refine (if_neg c4).trans ?_
          by_cases c5 : vs.all (constantsAlone 8) = true
          · rw [if_pos c5] at h; cases h
          · rw [if_neg c5] at h
            cases h
            exact if_neg c5
end TL
end
section
set_option autoImplicit false
set_option maxHeartbeats 1000000
/-! TL12: the checker: a term of the small language is that piece of the text -/
namespace TL
open PySem PySem.Spec PyProof.Rows L2

/-! ### views -/
def vName : Expr → Option Str | .Name x _ => some x | _ => none
def vConst : Expr → Option Const | .Constant c _ _ => some c | _ => none
def vTup : Expr → Option (List Expr) | .Tuple es _ _ => some es | _ => none
def vLst : Expr → Option (List Expr) | .List es _ => some es | _ => none
def vDict0 : Expr → Bool | .Dict [] [] _ => true | _ => false
def vBin : Expr → Option (Expr × Operator × Expr) | .BinOp a o b _ => some (a, o, b) | _ => none
def vUn : Expr → Option (UnaryOp × Expr) | .UnaryOp o a _ => some (o, a) | _ => none
def vCmp : Expr → Option (Expr × List CmpOp × List Expr) | .Compare a os bs _ => some (a, os, bs) | _ => none
def vBool : Expr → Option (BoolOp × List Expr × Pos) | .BoolOp o es p => some (o, es, p) | _ => none
def vIf : Expr → Option (Expr × Expr × Expr) | .IfExp t a b _ => some (t, a, b) | _ => none
def vSub : Expr → Option (Expr × Expr) | .Subscript a b _ => some (a, b) | _ => none
def vSlc : Expr → Option (Option Expr × Option Expr) | .Slice l h none _ => some (l, h) | _ => none
def vCall : Expr → Option (Expr × List Expr) | .Call f es [] _ => some (f, es) | _ => none
def vAttr : Expr → Option (Expr × Str) | .Attribute e n _ => some (e, n) | _ => none
def vLC : Expr → Option (Expr × Expr × Expr × List Expr × Scope) | .ListComp e [⟨t, i, c, 0⟩] s _ => some (e, t, i, c, s) | _ => none
def vCallK : Expr → Option (Expr × List Expr × Bool) | .Call f es [⟨some n, .Constant (.bool b) _ _, _⟩] _ => if n = TZ.kwS then some (f, es, b) else none | _ => none
def vDct1 : Expr → Option (Int × Expr) | .Dict [some (.Constant (.int k) _ _)] [a] _ => some (k, a) | _ => none
def vDct2 : Expr → Option (Int × Int × Expr × Expr) | .Dict [some (.Constant (.int k) _ _), some (.Constant (.int k2) _ _)] [a, b] _ => some (k, k2, a, b) | _ => none
def vRev : Expr → Option Expr | .Subscript a (.Slice none none (some (.UnaryOp .USub (.Constant (.int i) _ _) _)) _) _ => if i = 1 then some a else none | _ => none
def vMet : Expr → Option (Str × Str × Expr) | .Call (.Attribute (.Name o _) n p) [x] [] q => if (p.endLine == q.line) = true then some (n, o, x) else none | _ => none
def vMetO : Expr → Option Expr | .Call (.Attribute o _ _) _ _ _ => some o | _ => none
def vPop : Expr → Option Expr | .Call (.Attribute e n p) [] [] q => if decide (n = ("pop" : Str)) && (p.endLine == q.line) then some e else none | _ => none
theorem vName_eq {e : Expr} {x : Str} (h : vName e = some x) : ∃ p, e = .Name x p := by cases e <;> first | (cases h; exact ⟨_, rfl⟩) | exact nomatch h
theorem vConst_eq {e : Expr} {c : Const} (h : vConst e = some c) : ∃ k p, e = .Constant c k p := by cases e <;> first | (cases h; exact ⟨_, _, rfl⟩) | exact nomatch h
theorem vTup_eq {e : Expr} {es : List Expr} (h : vTup e = some es) : ∃ k p, e = .Tuple es k p := by cases e <;> first | (cases h; exact ⟨_, _, rfl⟩) | exact nomatch h
theorem vLst_eq {e : Expr} {es : List Expr} (h : vLst e = some es) : ∃ p, e = .List es p := by cases e <;> first | (cases h; exact ⟨_, rfl⟩) | exact nomatch h
theorem vBin_eq {e a b : Expr} {o : Operator} (h : vBin e = some (a, o, b)) : ∃ p, e = .BinOp a o b p := by cases e <;> first | (cases h; exact ⟨_, rfl⟩) | exact nomatch h
theorem vUn_eq {e a : Expr} {o : UnaryOp} (h : vUn e = some (o, a)) : ∃ p, e = .UnaryOp o a p := by cases e <;> first | (cases h; exact ⟨_, rfl⟩) | exact nomatch h
theorem vCmp_eq {e a : Expr} {os : List CmpOp} {bs : List Expr} (h : vCmp e = some (a, os, bs)) : ∃ p, e = .Compare a os bs p := by cases e <;> first | (cases h; exact ⟨_, rfl⟩) | exact nomatch h
theorem vBool_eq {e : Expr} {o : BoolOp} {es : List Expr} {p : Pos} (h : vBool e = some (o, es, p)) : e = .BoolOp o es p := by cases e <;> first | (cases h; rfl) | exact nomatch h
theorem vIf_eq {e t a b : Expr} (h : vIf e = some (t, a, b)) : ∃ p, e = .IfExp t a b p := by cases e <;> first | (cases h; exact ⟨_, rfl⟩) | exact nomatch h
theorem vSub_eq {e a b : Expr} (h : vSub e = some (a, b)) : ∃ p, e = .Subscript a b p := by cases e <;> first | (cases h; exact ⟨_, rfl⟩) | exact nomatch h
theorem vSlc_eq {e : Expr} {l h' : Option Expr} (h : vSlc e = some (l, h')) : ∃ p, e = .Slice l h' none p := by
  unfold vSlc at h
  split at h
  · cases h; exact ⟨_, rfl⟩
  · cases h
theorem vCall_eq {e f : Expr} {es : List Expr} (h : vCall e = some (f, es)) : ∃ p, e = .Call f es [] p := by
  unfold vCall at h
  split at h
  · cases h; exact ⟨_, rfl⟩
  · cases h
theorem vAttr_eq {e o : Expr} {n : Str} (h : vAttr e = some (o, n)) : ∃ p, e = .Attribute o n p := by cases e <;> first | (cases h; exact ⟨_, rfl⟩) | exact nomatch h
theorem vCallK_eq {e f : Expr} {es : List Expr} {b : Bool} (h : vCallK e = some (f, es, b)) : ∃ k cp kp p, e = .Call f es [⟨some TZ.kwS, .Constant (.bool b) k cp, kp⟩] p := by
  unfold vCallK at h
  split at h
  · split at h
    · rename_i hn
      subst hn
      cases h; exact ⟨_, _, _, _, rfl⟩
    · cases h
  · cases h
theorem vDct1_eq {e a : Expr} {k : Int} (h : vDct1 e = some (k, a)) : ∃ k1 p1 p, e = .Dict [some (.Constant (.int k) k1 p1)] [a] p := by
  unfold vDct1 at h
  split at h
  · cases h; exact ⟨_, _, _, rfl⟩
  · cases h
theorem vDct2_eq {e a b : Expr} {k k' : Int} (h : vDct2 e = some (k, k', a, b)) : ∃ k1 p1 k2 p2 p, e = .Dict [some (.Constant (.int k) k1 p1), some (.Constant (.int k') k2 p2)] [a, b] p := by
  unfold vDct2 at h
  split at h
  · cases h; exact ⟨_, _, _, _, _, rfl⟩
  · cases h
theorem vRev_eq {e a : Expr} (h : vRev e = some a) : ∃ k p1 p2 p3 p, e = .Subscript a (.Slice none none (some (.UnaryOp .USub (.Constant (.int 1) k p1) p2)) p3) p := by
  unfold vRev at h
  split at h
  · split at h
    · rename_i hn
      subst hn
      cases h; exact ⟨_, _, _, _, _, rfl⟩
    · cases h
  · cases h
theorem vMet_eq {e x : Expr} {n o : Str} (h : vMet e = some (n, o, x)) : ∃ po p q, e = .Call (.Attribute (.Name o po) n p) [x] [] q ∧ (p.endLine == q.line) = true ∧ vMetO e = some (.Name o po) := by
  unfold vMet at h
  split at h
  · split at h
    · rename_i hn
      cases h; exact ⟨_, _, _, rfl, hn, rfl⟩
    · cases h
  · cases h
theorem vDict0_eq {e : Expr} (h : vDict0 e = true) : ∃ p, e = .Dict [] [] p := by
  unfold vDict0 at h
  split at h
  · exact ⟨_, rfl⟩
  · cases h
theorem vPop_eq {e x : Expr} (h : vPop e = some x) : ∃ p q, e = .Call (.Attribute x ("pop" : Str) p) [] [] q ∧ (p.endLine == q.line) = true := by
  unfold vPop at h
  split at h
  · split at h
    · rename_i h2
      rw [Bool.and_eq_true, decide_eq_true_eq] at h2
      cases h
      obtain ⟨rfl, h2⟩ := h2
      exact ⟨_, _, rfl, h2⟩
    · cases h
  · cases h
def vLC2 : Expr → Option (Expr × Expr × Expr × List Expr × Expr × Expr × List Expr × Scope) | .ListComp e [⟨t, i, c, 0⟩, ⟨t1, i1, c1, 0⟩] s _ => some (e, t, i, c, t1, i1, c1, s) | _ => none
theorem vLC2_eq {e a t i t1 i1 : Expr} {c c1 : List Expr} {s : Scope} (h : vLC2 e = some (a, t, i, c, t1, i1, c1, s)) : ∃ p, e = .ListComp a [⟨t, i, c, 0⟩, ⟨t1, i1, c1, 0⟩] s p := by
  unfold vLC2 at h
  split at h
  · cases h; exact ⟨_, rfl⟩
  · cases h
theorem vLC_eq {e a t i : Expr} {c : List Expr} {s : Scope} (h : vLC e = some (a, t, i, c, s)) : ∃ p, e = .ListComp a [⟨t, i, c, 0⟩] s p := by
  unfold vLC at h
  split at h
  · cases h; exact ⟨_, rfl⟩
  · cases h

/-! ### the checker -/
structure Tb where
  fns : List (String × Bool)
  cons : List (String × D)
def visB (sc : Scope) (x : Str) : Bool := match sc.names.lookup x with
  | some .local => true
  | some .cell => true
  | some .free => true
  | _ => false
def locB (sc : Scope) (x : Str) : Bool := match sc.names.lookup x with
  | some .local => true
  | some .cell => true
  | _ => false
def plainB (x : Str) : Bool := !(x == ("__debug__" : Str)) && !(x == ("__classdict__" : Str)) && !decide (x = ("__name__" : Str))
def nmB (N : List Str) (sc : Scope) (i : Nat) (e : Expr) : Bool := match vName e with
  | some x => decide (N[i]? = some x) && visB sc x && plainB x
  | none => false
def stB (N : List Str) (sc : Scope) (i : Nat) (e : Expr) : Bool := match vName e with
  | some x => decide (N[i]? = some x) && locB sc x
  | none => false
def glB (sc : Scope) (s : String) (e : Expr) : Bool := match vName e with
  | some x => decide (x = Str.ofString s) && decide (sc.names.lookup x = some .globalImplicit) && plainB x
  | none => false
def noStars (es : List Expr) : Bool := es.all (fun e => !starB e)
def litB (d : D) (c : Const) : Bool := match d, c with
  | .none, .none => true
  | .bool a, .bool b => a == b
  | .int a, .int b => decide (a = b)
  | .str a, .str b => decide (a = b)
  | _, _ => false
def b1name : B1 → Option (String × Bool)
  | .len => some ("len", true)
  | .abs => some ("abs", true)
  | .min => some ("min", true)
  | .max => some ("max", true)
  | .sum => some ("sum", true)
  | .all => some ("all", true)
  | .any => some ("any", true)
  | .sorted => some ("sorted", true)
  | .repr => some ("repr", true)
  | .tuple => some ("tuple", false)
  | .list => some ("list", false)
  | .int => some ("int", false)
  | .str => some ("str", false)
  | .sortset => none
  | .tuprng => none
  | .dctenum => none
/-- two names, one call within the other -/
def b2n : B1 → String × String
  | .tuprng => ("tuple", "range")
  | _ => ("sorted", "set")
def b2name : B2 → String
  | .min => "min"
  | .max => "max"
def bltNames : List String := ["len", "abs", "min", "max", "sum", "all", "any", "sorted", "repr", "tuple", "list", "int", "str", "bool", "dict", "isinstance", "range", "reversed", "enumerate", "zip", "set"]
/-- the names of built-in types -/
def tysB (sc : Scope) : List String → List Expr → Bool
  | [], [] => true
  | t :: ts, e :: es => glB sc t e && decide (t ∈ knownTy) && tysB sc ts es
  | _, _ => false
mutual
def chkTG (N : List Str) (sc : Scope) : TG → Expr → Bool
  | .var i, e => stB N sc i e
  | .tup ts, e => match vTup e with
    | some es => noStars es && chkTGs N sc ts es
    | none => false
def chkTGs (N : List Str) (sc : Scope) : TGs → List Expr → Bool
  | .nil, es => es.isEmpty
  | .cons t ts, es => match es with
    | e :: es => chkTG N sc t e && chkTGs N sc ts es
    | [] => false
end
/-- a comprehension's own names -/
def blkB (N : List Str) (sc scope : Scope) (own : List Nat) : Bool :=
  (match scope.kind with | .function => true | _ => false) && (scope.names.all fun y => decide (scope.names.lookup y.1 = some y.2)) && (own.all fun i => decide (i < N.length)) &&
    (scope.names.all fun y => match y.2 with
      | .free => (match sc.names.lookup y.1 with | some .cell => true | some .free => true | _ => false)
      | .local => decide (y.1 ∈ own.map fun i => N.getD i Str.empty) || decide (y.1 ∉ N)
      | .cell => decide (y.1 ∈ own.map fun i => N.getD i Str.empty) || decide (y.1 ∉ N)
      | _ => true)
section
variable (N : List Str) (T : Tb)
mutual
def chkE : CE → Scope → Expr → Bool
  | .var i, sc, e => nmB N sc i e
  | .lit d, sc, e => match vConst e with
    | some c => litB d c
    | none => false
  | .glb x, sc, e => glB sc x e
  | .tup es, sc, e => match vTup e with
    | some xs => noStars xs && chkEs es sc xs
    | none => false
  | .lst es, sc, e => match vLst e with
    | some xs => noStars xs && chkEs es sc xs
    | none => false
  | .emp, sc, e => vDict0 e
  | .bin o a b, sc, e => match vBin e with
    | some (x, o', y) => decide (o = o') && chkE a sc x && chkE b sc y
    | none => false
  | .neg a, sc, e => match vUn e with
    | some (o, x) => decide (o = .USub) && chkE a sc x
    | none => false
  | .nt a, sc, e => match vUn e with
    | some (o, x) => decide (o = .Not) && chkE a sc x
    | none => false
  | .cmp o a b, sc, e => match vCmp e with
    | some (x, [o'], [y]) => decide (o = o') && !setB y && chkE a sc x && chkE b sc y
    | _ => false
  | .chn o o' a b c, sc, e => match vCmp e with
    | some (x, [p, p'], [y, z]) => decide (o = p) && decide (o' = p') && !setB z && chkE a sc x && chkE b sc y && chkE c sc z
    | _ => false
  | .and a b, sc, e => match vBool e with
    | some (.And, [x, y], _) => chkE a sc x && chkE b sc y
    | some (.And, x :: y :: z :: r, p) => chkE a sc x && chkE b sc (.BoolOp .And (y :: z :: r) p)
    | _ => false
  | .or a b, sc, e => match vBool e with
    | some (.Or, [x, y], _) => chkE a sc x && chkE b sc y
    | some (.Or, x :: y :: z :: r, p) => chkE a sc x && chkE b sc (.BoolOp .Or (y :: z :: r) p)
    | _ => false
  | .ife t a b, sc, e => match vIf e with
    | some (u, x, y) => chkT t sc u && chkE a sc x && chkE b sc y
    | none => false
  | .idx a i, sc, e => match vSub e with
    | some (x, y) => !sliceB y && chkE a sc x && chkE i sc y
    | none => false
  | .slc a lo hi, sc, e => match vSub e with
    | some (x, y) => (match vSlc y with
      | some (l, h) => chkE a sc x && chkCO lo sc l && chkCO hi sc h
      | none => false)
    | none => false
  | .rvs a, sc, e => match vRev e with
    | some x => chkE a sc x
    | none => false
  | .dc1 k a, sc, e => match vDct1 e with
    | some (j, x) => decide (j = k) && chkE a sc x
    | none => false
  | .dc2 k k2 a b, sc, e => match vDct2 e with
    | some (j, j2, x, y) => decide (j = k) && decide (j2 = k2) && chkE a sc x && chkE b sc y
    | none => false
  | .met m a b, sc, e => match vMet e, vMetO e with
    | some (n, _, x), some o => decide (n = nameM m) && !starB x && chkE a sc o && chkE b sc x
    | _, _ => false
  | .call f es, sc, e => match vCall e with
    | some (g, x :: xs) => glB sc f g && decide (T.fns.lookup f = some false) && noStars (x :: xs) && chkEs es sc (x :: xs)
    | some (g, []) => glB sc f g && decide (T.fns.lookup f = some false) && chkEs es sc []
    | _ => false
  | .pcall f i es, sc, e => match vCall e with
    | some (g, x :: xs) => glB sc f g && decide (T.fns.lookup f = some true) && nmB N sc i x && noStars (x :: xs) && chkEs es sc xs
    | _ => false
  | .bl1 b a, sc, e => match b1name b, vCall e with
    | some (s, _), some (g, [x]) => glB sc s g && !starB x && chkE a sc x
    | none, some (g, [y]) => match vCall y with
      | some (g2, [x]) => match b with
        | .dctenum => match vCall x with
          | some (g3, [z]) => glB sc "dict" g && (glB sc "list" g2 && (glB sc "enumerate" g3 && (!starB y && (!starB x && (!starB z && chkE a sc z)))))
          | _ => false
        | b => glB sc (b2n b).1 g && (glB sc (b2n b).2 g2 && (!starB y && (!starB x && chkE a sc x)))
      | _ => false
    | _, _ => false
  | .bl2 b a a', sc, e => match vCall e with
    | some (g, [x, y]) => glB sc (b2name b) g && !starB x && !starB y && chkE a sc x && chkE a' sc y
    | _ => false
  | .isi a ts, sc, e => match vCall e with
    | some (g, [x, y]) => glB sc "isinstance" g && !starB x && chkE a sc x && (match vTup y with
      | some ys => noStars ys && tysB sc ts ys && decide (ts.length ≤ 20)
      | none => !starB y && tysB sc ts [y])
    | _ => false
  | .pop i, sc, e => match vPop e with
    | some x => nmB N sc i x
    | none => false
  | .lc e t it c own, sc, e' => match vLC e' with
    | some (x, tg, i, ifs, s) => chkE e s x && chkTG N s t tg && chkIt it sc tg i && chkCT c s ifs && blkB N sc s own && (tgS t).all (fun j => decide (j ∈ own)) && !setB i
    | none => false
  | .lc2 e t it c t1 it1 c1 own own1, sc, e' => match vLC2 e' with
    | some (x, tg, i, ifs, tg1, i1, ifs1, s) => chkE e s x && chkTG N s t tg && chkIt it sc tg i && chkCT c s ifs && chkTG N s t1 tg1 && chkIt it1 s tg1 i1 && chkCT c1 s ifs1 && blkB N sc s own && (tgS t).all (fun j => decide (j ∈ own)) && (tgS t1).all (fun j => decide (j ∈ own1)) && own1.all (fun j => decide (j ∈ own)) && !setB i && !setB i1
    | none => false
def chkEs : CEs → Scope → List Expr → Bool
  | .nil, sc, xs => xs.isEmpty
  | .cons e es, sc, xs => match xs with
    | x :: xs => chkE e sc x && chkEs es sc xs
    | [] => false
def chkCO : CO → Scope → Option Expr → Bool
  | .no, _, x => x.isNone
  | .so e, sc, x => match x with
    | some y => chkE e sc y
    | none => false
def chkT : CT → Scope → Expr → Bool
  | .of e, sc, x => (plainT x || (vCmp x).isSome) && chkE e sc x
  | .and a b, sc, e => match vBool e with
    | some (.And, [x, y], _) => chkT a sc x && chkT b sc y
    | some (.And, x :: y :: z :: r, p) => chkT a sc x && chkT b sc (.BoolOp .And (y :: z :: r) p)
    | _ => false
  | .or a b, sc, e => match vBool e with
    | some (.Or, [x, y], _) => chkT a sc x && chkT b sc y
    | some (.Or, x :: y :: z :: r, p) => chkT a sc x && chkT b sc (.BoolOp .Or (y :: z :: r) p)
    | _ => false
  | .nt a, sc, e => match vUn e with
    | some (o, x) => decide (o = .Not) && chkT a sc x
    | none => false
  | .ite c a b, sc, e => match vIf e with
    | some (u, x, y) => chkT c sc u && chkT a sc x && chkT b sc y
    | none => false
def chkCT : CTO → Scope → List Expr → Bool
  | .no, _, xs => xs.isEmpty
  | .so t, sc, xs => match xs with
    | [x] => chkT t sc x
    | _ => false
def chkIt : IT → Scope → Expr → Expr → Bool
  | .of e, sc, _, x => chkE e sc x
  | .rng1 a, sc, _, e => match vCall e with
    | some (g, [x]) => glB sc "range" g && !starB x && chkE a sc x
    | _ => false
  | .rng2 a b, sc, _, e => match vCall e with
    | some (g, [x, y]) => glB sc "range" g && !starB x && !starB y && chkE a sc x && chkE b sc y
    | _ => false
  | .rng3 a b c, sc, _, e => match vCall e with
    | some (g, [x, y, z]) => glB sc "range" g && !starB x && !starB y && !starB z && chkE a sc x && chkE b sc y && (match vConst z, vUn z with
      | some (.int i), _ => decide (i = c)
      | _, some (.USub, z') => (match vConst z' with
        | some (.int i) => decide (-i = c)
        | _ => false)
      | _, _ => false)
    | _ => false
  | .rev a, sc, _, e => match vCall e with
    | some (g, [x]) => glB sc "reversed" g && !starB x && chkE a sc x
    | _ => false
  | .enum a, sc, tg, e => match vCall e with
    | some (g, [x]) => glB sc "enumerate" g && !starB x && chkE a sc x && (vTup tg).isSome
    | _ => false
  | .zip a b st, sc, tg, e => match st with
    | none => (match vCall e with
      | some (g, [x, y]) => glB sc "zip" g && !starB x && !starB y && chkE a sc x && chkE b sc y && (vTup tg).isSome
      | _ => false)
    | some sb => (match vCallK e with
      | some (g, [x, y], k) => glB sc "zip" g && decide (k = sb) && !starB x && !starB y && chkE a sc x && chkE b sc y && (vTup tg).isSome
      | _ => false)
end
end
end TL
end
section
set_option autoImplicit false
set_option maxHeartbeats 2000000
/-! TL13: what the checker has passed runs as the trees say: expressions -/
namespace TL
open PySem PySem.Spec PyProof.Rows L2

/-- a def of the text may be called -/
structure CallOk (X : Cx) (k : Nat) (C : CallW) (f : String) (pen : Bool) : Prop where
  ex : ∃ (fa : Addr) (fd : FuncData) (ps : List Str) (n : Nat), X.mg (Str.ofString f) = some (.ref fa) ∧ PySem.W.keepIn X.K (.ref fa) = true ∧ L2.Binds X.K fd ps [] ∧
    FnG X.prog X.w X.K X.mg X.base k fa fd ps (if pen = true then spP X.K n (C f) else spN X.K n (C f)) ∧ ∀ ds Qt, C f ds Qt → ds.length = n
structure XOk (T : Tb) (C : CallW) (N : List Str) (k : Nat) (X : Cx) (sc : Scope) : Prop where
  eN : X.N = N
  calm : X.calm = true
  nd : X.N.Nodup
  room : Room k X.A
  gd : X.A.guards = some []
  sy : SysD X.base
  s1 : ∀ x kd, sc.names.lookup x = some kd → kd ≠ .free → X.env.scope.names.lookup x = some kd
  s2 : ∀ x, sc.names.lookup x = some .free → X.env.scope.names.lookup x = some .free ∨ X.env.scope.names.lookup x = some .cell
  fn : ∀ x, sc.names.lookup x = some .cell → X.fn x = true
  cons : ∀ x d, T.cons.lookup x = some d → ∃ v u, X.mg (Str.ofString x) = some u ∧ RelV v u ∧ Rp X.K (fun _ => none) v d
  blt : ∀ s ∈ bltNames, X.mg (Str.ofString s) = none
  fns : ∀ f pen, T.fns.lookup f = some pen → CallOk X k C f pen
def Tb.G (T : Tb) (x : String) : Option D := T.cons.lookup x

section
variable {T : Tb} {C : CallW} {N : List Str} {k : Nat} {X : Cx} {sc : Scope}
theorem XOk.u64 (ok : XOk T C N k X sc) : X.A.units + 64 < cLine := ok.room.units
theorem XOk.u65 (ok : XOk T C N k X sc) : X.A.units + 65 < cLine := by have := ok.room.un; omega
theorem XOk.u68 (ok : XOk T C N k X sc) : X.A.units + 68 < cLine := by have := ok.room.un; omega
theorem plainB_ok {x : Str} (h : plainB x = true) : (x == ("__debug__" : Str)) = false ∧ (x == ("__classdict__" : Str)) = false ∧ x ≠ "__name__" := by
  unfold plainB at h
  rw [Bool.and_eq_true, Bool.and_eq_true, Bool.not_eq_true', Bool.not_eq_true', Bool.not_eq_true', decide_eq_false_iff_not] at h
  exact ⟨h.1.1, h.1.2, h.2⟩
theorem XOk.vis (ok : XOk T C N k X sc) {x : Str} (h : visB sc x = true) : Vis X.env.scope x := by
  unfold visB at h
  split at h
  · rename_i e; exact .inl (ok.s1 _ _ e (fun z => nomatch z))
  · rename_i e; exact .inr (.inl (ok.s1 _ _ e (fun z => nomatch z)))
  · rename_i e; exact (ok.s2 _ e).elim (fun z => .inr (.inr z)) fun z => .inr (.inl z)
  · cases h
theorem XOk.loc (ok : XOk T C N k X sc) {x : Str} (h : locB sc x = true) : Loc X.env.scope x ∧ (X.fn x = true ∨ X.env.scope.names.lookup x = some .local) := by
  unfold locB at h
  split at h
  · rename_i e
    have z := ok.s1 _ _ e (fun z => nomatch z)
    exact ⟨.inl z, .inr z⟩
  · rename_i e
    exact ⟨.inr (ok.s1 _ _ e (fun z => nomatch z)), .inl (ok.fn _ e)⟩
  · cases h
theorem XOk.nm (ok : XOk T C N k X sc) {i : Nat} {e : Expr} (h : nmB N sc i e = true) : ∃ x p, e = .Name x p ∧ X.N[i]? = some x ∧ Vis X.env.scope x ∧ (x == ("__debug__" : Str)) = false ∧ (x == ("__classdict__" : Str)) = false := by
  unfold nmB at h
  cases e1 : vName e with
  | none => rw [e1] at h; cases h
  | some x =>
    rw [e1] at h
    dsimp only at h
    rw [Bool.and_eq_true, Bool.and_eq_true, decide_eq_true_eq] at h
    obtain ⟨p, rfl⟩ := vName_eq e1
    have := plainB_ok h.2
    exact ⟨x, p, rfl, by rw [ok.eN]; exact h.1.1, ok.vis h.1.2, this.1, this.2.1⟩
theorem XOk.st (ok : XOk T C N k X sc) {i : Nat} {e : Expr} (h : stB N sc i e = true) : ∃ x p, e = .Name x p ∧ X.N[i]? = some x ∧ Loc X.env.scope x ∧ (X.fn x = true ∨ X.env.scope.names.lookup x = some .local) := by
  unfold stB at h
  cases e1 : vName e with
  | none => rw [e1] at h; cases h
  | some x =>
    rw [e1] at h
    dsimp only at h
    rw [Bool.and_eq_true, decide_eq_true_eq] at h
    obtain ⟨p, rfl⟩ := vName_eq e1
    exact ⟨x, p, rfl, by rw [ok.eN]; exact h.1, ok.loc h.2⟩
theorem XOk.gl (ok : XOk T C N k X sc) {s : String} {e : Expr} (h : glB sc s e = true) : ∃ p, e = .Name (Str.ofString s) p ∧ Gl X (Str.ofString s) ∧ (Str.ofString s == ("__debug__" : Str)) = false ∧ Str.ofString s ≠ "__name__" := by
  unfold glB at h
  cases e1 : vName e with
  | none => rw [e1] at h; cases h
  | some x =>
    rw [e1] at h
    dsimp only at h
    rw [Bool.and_eq_true, Bool.and_eq_true, decide_eq_true_eq, decide_eq_true_eq] at h
    obtain ⟨⟨rfl, h2⟩, h3⟩ := h
    obtain ⟨p, rfl⟩ := vName_eq e1
    have := plainB_ok h3
    exact ⟨p, rfl, ok.s1 _ _ h2 (fun z => nomatch z), this.1, this.2.2⟩
theorem noStars_cons {e : Expr} {es : List Expr} (h : noStars (e :: es) = true) : starB e = false ∧ noStars es = true := by
  unfold noStars at h
  rw [List.all_cons, Bool.and_eq_true] at h
  exact ⟨by simpa using h.1, h.2⟩

/-! ### targets -/
mutual
theorem sndTG (ok : XOk T C N k X sc) : ∀ (t : TG) {e : Expr}, chkTG N sc t e = true → PG X e (rdG X.K t)
  | .var i, e, h => by
    obtain ⟨x, p, rfl, h1, h2, h3⟩ := ok.st (show stB N sc i e = true from h)
    exact g_var ok.nd h1 h2 h3
  | .tup ts, e, h => by
    rw [chkTG] at h
    cases e1 : vTup e with
    | none => rw [e1] at h; cases h
    | some es =>
      rw [e1] at h
      dsimp only at h
      rw [Bool.and_eq_true] at h
      obtain ⟨k1, p, rfl⟩ := vTup_eq e1
      obtain ⟨h1, h2⟩ := sndTGs ok ts h.1 h.2
      exact g_tup ok.calm h1 h2 (asg_find _ _ h.1)
theorem sndTGs (ok : XOk T C N k X sc) : ∀ (ts : TGs) {es : List Expr}, noStars es = true → chkTGs N sc ts es = true → PGs X es (rdGs X.K ts) ∧ (assignEach es X.env).length = tgLen ts
  | .nil, es, _, h => by
    have : es = [] := List.isEmpty_iff.mp h
    subst this
    exact ⟨g_nil, rfl⟩
  | .cons t ts, es, hs, h => by
    cases es with
    | nil => exact nomatch h
    | cons e es =>
      rw [chkTGs, Bool.and_eq_true] at h
      obtain ⟨s1, s2⟩ := noStars_cons hs
      obtain ⟨h1, h2⟩ := sndTGs ok ts s2 h.2
      refine ⟨g_cons (sndTG ok t h.1) h1 (by rw [asg_cons s1]; rfl), ?_⟩
      rw [asg_cons s1, List.length_cons, h2]; rfl
end

/-! ### blocks -/
theorem relabel_keep {env : PySem.Env} : ∀ {names : List (Str × NameKind)} {x : Str} {kd : NameKind}, kd ≠ .free → names.lookup x = some kd →
    (names.map fun (n, k) => if (k == .free && env.scope.kind == .function && env.kindOf n == some .cell) then (n, NameKind.cell) else (n, k)).lookup x = some kd :=
  fun {names x kd} h e => lookup_relS_keep (sc := env.scope) h e
theorem relabel_free {env : PySem.Env} : ∀ {names : List (Str × NameKind)} {x : Str}, names.lookup x = some .free →
    (names.map fun (n, k) => if (k == .free && env.scope.kind == .function && env.kindOf n == some .cell) then (n, NameKind.cell) else (n, k)).lookup x = some .free ∨
    (names.map fun (n, k) => if (k == .free && env.scope.kind == .function && env.kindOf n == some .cell) then (n, NameKind.cell) else (n, k)).lookup x = some .cell
  | [], _, h => nomatch h
  | (n, kd) :: r, x, h => by
    rw [List.lookup_cons] at h
    rw [List.map_cons]
    dsimp only
    cases hx : x == n with
    | true =>
      rw [hx] at h
      cases h
      split
      · right; rw [List.lookup_cons, hx]
      · left; rw [List.lookup_cons, hx]
    | false =>
      rw [hx] at h
      split
      · rw [List.lookup_cons, hx]; exact relabel_free h
      · rw [List.lookup_cons, hx]; exact relabel_free h
def ownL (N : List Str) (own : List Nat) : List (Str × Nat) := own.map fun i => (N.getD i Str.empty, i)
theorem ownL_2 (N : List Str) (own : List Nat) : (ownL N own).map (·.2) = own := by
  unfold ownL; rw [List.map_map]; exact List.map_id _
theorem ownL_1 (N : List Str) (own : List Nat) : (ownL N own).map (·.1) = own.map fun i => N.getD i Str.empty := by
  unfold ownL; rw [List.map_map]; rfl
theorem blk_ok (ok : XOk T C N k X sc) {scope : Scope} {own : List Nat} (h : blkB N sc scope own = true) : BlkOk X.N X.env.scope scope (ownL N own) := by
  unfold blkB at h
  rw [Bool.and_eq_true, Bool.and_eq_true, Bool.and_eq_true] at h
  obtain ⟨⟨⟨h1, h2⟩, h3⟩, h4⟩ := h
  rw [List.all_eq_true] at h2 h3 h4
  refine ⟨?_, fun y hy => of_decide_eq_true (h2 y hy), fun p hp => ?_, fun y hy e => ?_, fun y hy e => ?_⟩
  · cases e : scope.kind <;> rw [e] at h1 <;> first | rfl | cases h1
  · obtain ⟨i, hi, rfl⟩ := List.mem_map.mp hp
    have hl := of_decide_eq_true (h3 i hi)
    rw [ok.eN]
    show N[i]? = some (N.getD i Str.empty)
    rw [List.getD_eq_getElem?_getD, List.getElem?_eq_getElem hl]; rfl
  · have := h4 y hy
    rw [e] at this
    dsimp only at this
    split at this
    · rename_i z; exact .inl (ok.s1 _ _ z (fun q => nomatch q))
    · rename_i z; exact (ok.s2 _ z).symm
    · cases this
  · have := h4 y hy
    rw [ownL_1, ok.eN]
    rcases e with e | e <;>
    · rw [e] at this
      dsimp only at this
      rw [Bool.or_eq_true, decide_eq_true_eq, decide_eq_true_eq] at this
      exact this
theorem XOk.blk (ok : XOk T C N k X sc) (s : Shared) (H : Hp) (scope : Scope) (C0 : Addr) (cl : List (Str × Addr)) (fp : List Addr) : XOk T C N k (X.blk s H scope (compEnvC scope cl C0 X.env) fp) scope where
  eN := ok.eN
  calm := ok.calm
  nd := ok.nd
  room := ok.room
  gd := ok.gd
  sy := ok.sy
  s1 x kd e n := relabel_keep n e
  s2 x e := relabel_free e
  fn x e := by show (scope.names.lookup x == some .cell) = true; rw [e]; rfl
  cons := ok.cons
  blt := ok.blt
  fns f pen e := ⟨(ok.fns f pen e).ex⟩

theorem pe_false {e : Expr} : PE X e (rdE X.K fun _ _ => False) := ⟨fun pins s σ H Q I ⟨F, ρ, Qt, sr, hw, k⟩ => hw.elim⟩
theorem sndO_of {a : CE} {e : Expr} {G : String → Option D} (h : PE X e (rdE X.K (wpE G C a))) (hv : ∀ i, a = .var i → PE X e (rdO X.K fun ρ k => lkS ρ[i]? (fun _ => True) ∧ k (.slot i) ρ)) :
    PE X e (rdO X.K (opd a (wpE G C a))) := by
  cases a with
  | var i => exact hv i rfl
  | _ => exact o_val h
theorem sndO_var (ok : XOk T C N k X sc) {a : CE} {e : Expr} (h : chkE N T a sc e = true) : ∀ i, a = .var i → PE X e (rdO X.K fun ρ k => lkS ρ[i]? (fun _ => True) ∧ k (.slot i) ρ) := fun i ea => by
  subst ea
  obtain ⟨x, p, rfl, h1, h2, h3, h4⟩ := ok.nm (show nmB N sc i e = true from h)
  exact o_var h1 h2 h3 h4
theorem boot_b1 {b : B1} {s : String} {m : Bool} (h : b1name b = some (s, m)) : s ∈ bltNames ∧ bootBuiltins (Str.ofString s) = some (if m = true then .builtin s else .type s) := by
  cases b <;> first | (cases h; exact ⟨by decide, by decide +kernel⟩) | exact nomatch h
theorem tysB_ok (ok : XOk T C N k X sc) : ∀ {ts : List String} {es : List Expr}, noStars es = true → tysB sc ts es = true → PA X es (tTys ts) ∧ ∀ t ∈ ts, t ∈ knownTy
  | [], [], _, _ => ⟨pa_ty0, fun t h => nomatch h⟩
  | [], _ :: _, _, h => nomatch h
  | _ :: _, [], _, h => nomatch h
  | t :: ts, e :: es, hs, h => by
    rw [tysB, Bool.and_eq_true, Bool.and_eq_true, decide_eq_true_eq] at h
    obtain ⟨⟨h1, h2⟩, h3⟩ := h
    obtain ⟨s1, s2⟩ := noStars_cons hs
    obtain ⟨p, rfl, g1, g2, g3⟩ := ok.gl h1
    obtain ⟨i1, i2⟩ := tysB_ok ok s2 h3
    have hb : t ∈ bltNames ∧ bootBuiltins (Str.ofString t) = some (.type t) := by
      simp only [knownTy, List.mem_cons, List.not_mem_nil, or_false] at h2
      rcases h2 with rfl | rfl | rfl | rfl | rfl | rfl <;> exact ⟨by decide, by decide +kernel⟩
    refine ⟨pa_ty g1 (ok.blt t hb.1) hb.2 g3 g2 i1 (star_cons s1 _ _), fun u hu => ?_⟩
    rcases List.mem_cons.mp hu with rfl | hu
    · exact h2
    · exact i2 u hu
end
end TL
end
section
set_option autoImplicit false
set_option maxHeartbeats 4000000
/-! TL14: what the checker has passed runs as the trees say: expressions, all of them -/
namespace TL
open PySem PySem.Spec PyProof.Rows L2

theorem conv_calls {X : Cx} {b : B1} {s : String} {m : Bool} (h : b1name b = some (s, m)) (hc : X.calm = true) (sy : SysD X.base) (hg : X.A.guards = some []) (hu : X.A.units + 68 < cLine) :
    CallR X (if m = true then .builtin s else .type s) (c1 X.K (wpB1 b)) := by
  cases b <;> first | (cases h) | skip
  · exact b_len
  · exact b_abs
  · exact b_min hc
  · exact b_max hc
  · exact b_sum hc
  · exact b_all hc
  · exact b_any hc
  · exact b_sorted
  · exact b_tuple
  · exact b_list
  · exact b_int
  · exact b_str
  · exact b_repr sy hg hu
section
variable {T : Tb} {C : CallW} {N : List Str} {k : Nat}
mutual
theorem sndE : ∀ (a : CE) {X : Cx} {sc : Scope} {e : Expr}, XOk T C N k X sc → chkE N T a sc e = true → PE X e (rdE X.K (wpE T.G C a))
  | .var i, X, sc, e, ok, h => by
    obtain ⟨x, p, rfl, h1, h2, h3, h4⟩ := ok.nm (show nmB N sc i e = true from h)
    exact e_var h1 h2 h3 h4
  | .lit d, X, sc, e, ok, h => by
    rw [chkE] at h
    cases e1 : vConst e with
    | none => rw [e1] at h; cases h
    | some c =>
      rw [e1] at h
      dsimp only at h
      obtain ⟨k1, p, rfl⟩ := vConst_eq e1
      unfold litB at h
      split at h
      · exact e_lit (d := .none) pe_non .non
      · cases (by simpa using h : _ = _); exact e_lit (d := .bool _) pe_bl (.bl _)
      · cases of_decide_eq_true h; exact e_lit (d := .int _) pe_int (.int _)
      · cases of_decide_eq_true h; exact e_lit (d := .str _) pe_str (.str _)
      · cases h
  | .glb x, X, sc, e, ok, h => by
    obtain ⟨p, rfl, g1, g2, g3⟩ := ok.gl (show glB sc x e = true from h)
    show PE X _ (rdE X.K fun ρ Q => match T.G x with
      | some d => Q (.fz d) ρ
      | none => False)
    cases e1 : T.G x with
    | none => exact pe_false
    | some d =>
      obtain ⟨v, u, m1, m2, m3⟩ := ok.cons x d e1
      exact e_lit (pe_glob g1 m1 m2 g2) m3
  | .tup es, X, sc, e, ok, h => by
    rw [chkE] at h
    cases e1 : vTup e with
    | none => rw [e1] at h; cases h
    | some xs =>
      rw [e1] at h
      dsimp only at h
      rw [Bool.and_eq_true] at h
      obtain ⟨k1, p, rfl⟩ := vTup_eq e1
      exact e_tup (sndEs es ok h.1 h.2)
  | .lst es, X, sc, e, ok, h => by
    rw [chkE] at h
    cases e1 : vLst e with
    | none => rw [e1] at h; cases h
    | some xs =>
      rw [e1] at h
      dsimp only at h
      rw [Bool.and_eq_true] at h
      obtain ⟨p, rfl⟩ := vLst_eq e1
      exact e_lst (sndEs es ok h.1 h.2)
  | .emp, X, sc, e, ok, h => by
    obtain ⟨p, rfl⟩ := vDict0_eq (show vDict0 e = true from h)
    exact e_emp
  | .bin o a b, X, sc, e, ok, h => by
    rw [chkE] at h
    cases e1 : vBin e with
    | none => rw [e1] at h; cases h
    | some z =>
      obtain ⟨x, o', y⟩ := z
      rw [e1] at h
      dsimp only at h
      rw [Bool.and_eq_true, Bool.and_eq_true, decide_eq_true_eq] at h
      obtain ⟨⟨rfl, h1⟩, h2⟩ := h
      obtain ⟨p, rfl⟩ := vBin_eq e1
      exact e_bin (sndO_of (sndE a ok h1) (sndO_var ok h1)) (sndO_of (sndE b ok h2) (sndO_var ok h2))
  | .neg a, X, sc, e, ok, h => by
    rw [chkE] at h
    cases e1 : vUn e with
    | none => rw [e1] at h; cases h
    | some z =>
      obtain ⟨o, x⟩ := z
      rw [e1] at h
      dsimp only at h
      rw [Bool.and_eq_true, decide_eq_true_eq] at h
      obtain ⟨rfl, h1⟩ := h
      obtain ⟨p, rfl⟩ := vUn_eq e1
      exact e_neg (sndO_of (sndE a ok h1) (sndO_var ok h1))
  | .nt a, X, sc, e, ok, h => by
    rw [chkE] at h
    cases e1 : vUn e with
    | none => rw [e1] at h; cases h
    | some z =>
      obtain ⟨o, x⟩ := z
      rw [e1] at h
      dsimp only at h
      rw [Bool.and_eq_true, decide_eq_true_eq] at h
      obtain ⟨rfl, h1⟩ := h
      obtain ⟨p, rfl⟩ := vUn_eq e1
      exact e_not (sndO_of (sndE a ok h1) (sndO_var ok h1))
  | .cmp o a b, X, sc, e, ok, h => by
    rw [chkE] at h
    split at h
    · rename_i x o' y e1
      rw [Bool.and_eq_true, Bool.and_eq_true, Bool.and_eq_true, decide_eq_true_eq, Bool.not_eq_true'] at h
      obtain ⟨⟨⟨rfl, h0⟩, h1⟩, h2⟩ := h
      obtain ⟨p, rfl⟩ := vCmp_eq e1
      exact e_cmp ok.u64 (sndO_of (sndE a ok h1) (sndO_var ok h1)) (sndO_of (sndE b ok h2) (sndO_var ok h2)) (noSet_mark h0 _)
    · cases h
  | .chn o o' a b c, X, sc, e, ok, h => by
    rw [chkE] at h
    split at h
    · rename_i x q q' y z e1
      rw [Bool.and_eq_true, Bool.and_eq_true, Bool.and_eq_true, Bool.and_eq_true, Bool.and_eq_true, decide_eq_true_eq, decide_eq_true_eq, Bool.not_eq_true'] at h
      obtain ⟨⟨⟨⟨⟨rfl, rfl⟩, h0⟩, h1⟩, h2⟩, h3⟩ := h
      obtain ⟨p, rfl⟩ := vCmp_eq e1
      exact e_chn ok.u64 (sndO_of (sndE a ok h1) (sndO_var ok h1)) (sndO_of (sndE b ok h2) (sndO_var ok h2)) (sndO_of (sndE c ok h3) (sndO_var ok h3)) (noSet_mark h0 _)
    · cases h
  | .and a b, X, sc, e, ok, h => by
    rw [chkE] at h
    split at h
    · rename_i x y p e1
      rw [Bool.and_eq_true] at h
      cases vBool_eq e1
      exact e_and (sndE a ok h.1) (pe_one (sndE b ok h.2))
    · rename_i x y z r p e1
      rw [Bool.and_eq_true] at h
      cases vBool_eq e1
      exact e_and (sndE a ok h.1) (sndE b ok h.2)
    · cases h
  | .or a b, X, sc, e, ok, h => by
    rw [chkE] at h
    split at h
    · rename_i x y p e1
      rw [Bool.and_eq_true] at h
      cases vBool_eq e1
      exact e_or (sndE a ok h.1) (pe_one (sndE b ok h.2))
    · rename_i x y z r p e1
      rw [Bool.and_eq_true] at h
      cases vBool_eq e1
      exact e_or (sndE a ok h.1) (sndE b ok h.2)
    · cases h
  | .ife t a b, X, sc, e, ok, h => by
    rw [chkE] at h
    cases e1 : vIf e with
    | none => rw [e1] at h; cases h
    | some z =>
      obtain ⟨u, x, y⟩ := z
      rw [e1] at h
      dsimp only at h
      rw [Bool.and_eq_true, Bool.and_eq_true] at h
      obtain ⟨p, rfl⟩ := vIf_eq e1
      exact e_ife (sndT t ok h.1.1).1 (sndE a ok h.1.2) (sndE b ok h.2)
  | .idx a i, X, sc, e, ok, h => by
    rw [chkE] at h
    cases e1 : vSub e with
    | none => rw [e1] at h; cases h
    | some z =>
      obtain ⟨x, y⟩ := z
      rw [e1] at h
      dsimp only at h
      rw [Bool.and_eq_true, Bool.and_eq_true, Bool.not_eq_true'] at h
      obtain ⟨p, rfl⟩ := vSub_eq e1
      exact e_idx (sndO_of (sndE a ok h.1.2) (sndO_var ok h.1.2)) (sndO_of (sndE i ok h.2) (sndO_var ok h.2)) (plainIx_of h.1.1)
  | .slc a lo hi, X, sc, e, ok, h => by
    rw [chkE] at h
    cases e1 : vSub e with
    | none => rw [e1] at h; cases h
    | some z =>
      obtain ⟨x, y⟩ := z
      rw [e1] at h
      dsimp only at h
      cases e2 : vSlc y with
      | none => rw [e2] at h; cases h
      | some z =>
        obtain ⟨l, u⟩ := z
        rw [e2] at h
        dsimp only at h
        rw [Bool.and_eq_true, Bool.and_eq_true] at h
        obtain ⟨p, rfl⟩ := vSub_eq e1
        obtain ⟨p2, rfl⟩ := vSlc_eq e2
        exact e_slc (sndO_of (sndE a ok h.1.1) (sndO_var ok h.1.1)) (sndCO lo ok h.1.2) (sndCO hi ok h.2)
  | .rvs a, X, sc, e, ok, h => by
    rw [chkE] at h
    cases e1 : vRev e with
    | none => rw [e1] at h; cases h
    | some x =>
      rw [e1] at h
      obtain ⟨k1, p1, p2, p3, p, rfl⟩ := vRev_eq e1
      exact e_rvs (sndO_of (sndE a ok h) (sndO_var ok h))
  | .dc1 k a, X, sc, e, ok, h => by
    rw [chkE] at h
    cases e1 : vDct1 e with
    | none => rw [e1] at h; cases h
    | some z =>
      obtain ⟨j, x⟩ := z
      rw [e1] at h
      dsimp only at h
      rw [Bool.and_eq_true, decide_eq_true_eq] at h
      obtain ⟨rfl, h⟩ := h
      obtain ⟨k1, p1, p, rfl⟩ := vDct1_eq e1
      exact e_dc1 (sndE a ok h)
  | .dc2 k k2 a b, X, sc, e, ok, h => by
    rw [chkE] at h
    cases e1 : vDct2 e with
    | none => rw [e1] at h; cases h
    | some z =>
      obtain ⟨j, j2, x, y⟩ := z
      rw [e1] at h
      dsimp only at h
      rw [Bool.and_eq_true, Bool.and_eq_true, Bool.and_eq_true, decide_eq_true_eq, decide_eq_true_eq] at h
      obtain ⟨⟨⟨rfl, rfl⟩, h1⟩, h2⟩ := h
      obtain ⟨k1, p1, k2, p2, p, rfl⟩ := vDct2_eq e1
      exact e_dc2 (sndE a ok h1) (sndE b ok h2)
  | .met m a b, X, sc, e, ok, h => by
    rw [chkE] at h
    split at h
    · rename_i n on x o e1 e2
      rw [Bool.and_eq_true, Bool.and_eq_true, Bool.and_eq_true, decide_eq_true_eq, Bool.not_eq_true'] at h
      obtain ⟨⟨⟨rfl, h1⟩, h2⟩, h3⟩ := h
      obtain ⟨po, p, q, rfl, hl, e3⟩ := vMet_eq e1
      rw [e3] at e2; cases e2
      have po' := sndO_of (sndE a ok h2) (sndO_var ok h2)
      have pa : PA X [x] (tCons (rdO X.K (opd b (wpE T.G C b))) tNil) := pa_cons (sndO_of (sndE b ok h3) (sndO_var ok h3)) pa_nil (star_cons h1 _ _)
      cases m with
      | sw => exact e_met (m := .sw) (pe_bm PySem.F.plainAttrs_str PySem.F.slot_str_startswith PySem.F.type_str_startswith (mt_any ok.u65 .sw) po' pa rfl (by rw [star_cons h1]; rfl) hl (star_cons h1 _ _) rfl)
      | ew => exact e_met (m := .ew) (pe_bm PySem.F.plainAttrs_str PySem.F.slot_str_endswith PySem.F.type_str_endswith (mt_any ok.u65 .ew) po' pa rfl (by rw [star_cons h1]; rfl) hl (star_cons h1 _ _) rfl)
      | ixd => exact e_met (m := .ixd) (pe_bm PySem.F.plainAttrs_list PySem.F.slot_list_index PySem.F.type_list_index (mt_any ok.u65 .ixd) po' pa rfl (by rw [star_cons h1]; rfl) hl (star_cons h1 _ _) rfl)
      | ix => exact e_met (m := .ix) (pe_bm PySem.F.plainAttrs_list PySem.F.slot_list_index PySem.F.type_list_index (mt_any ok.u65 .ix) po' pa rfl (by rw [star_cons h1]; rfl) hl (star_cons h1 _ _) rfl)
    · cases h
  | .call f es, X, sc, e, ok, h => by
    rw [chkE] at h
    split at h
    · rename_i g x xs e1
      rw [Bool.and_eq_true, Bool.and_eq_true, Bool.and_eq_true, decide_eq_true_eq] at h
      obtain ⟨⟨⟨h1, h2⟩, h3⟩, h4⟩ := h
      obtain ⟨p, rfl⟩ := vCall_eq e1
      obtain ⟨p2, rfl, g1, g2, g3⟩ := ok.gl h1
      obtain ⟨fa, fd, ps, n, m1, m2, m3, m4, m5⟩ := (ok.fns f false h2).ex
      obtain ⟨s1, s2⟩ := noStars_cons h3
      exact e_call (g_call m4 ok.room ok.gd g1 m1 m2 m3 (sndEs es ok h3 h4).frz g2 (star_cons s1 _ _) (star_plain _ _ _ s2)) m5
    · rename_i g e1
      rw [Bool.and_eq_true, Bool.and_eq_true, decide_eq_true_eq] at h
      obtain ⟨⟨h1, h2⟩, h4⟩ := h
      obtain ⟨p, rfl⟩ := vCall_eq e1
      obtain ⟨p2, rfl, g1, g2, g3⟩ := ok.gl h1
      obtain ⟨fa, fd, ps, n, m1, m2, m3, m4, m5⟩ := (ok.fns f false h2).ex
      cases es with
      | nil => exact e_call (ws := wpEs T.G C .nil) ((g_call0 m4 ok.room ok.gd g1 m1 m2 m3 g2).imp fun σ H Q ⟨F, ρ, Qt, s, hw, kk⟩ => kk _ _ _ _ _ hw .refl s .nil) m5
      | cons a as => exact nomatch h4
    · cases h
  | .pcall f i es, X, sc, e, ok, h => by
    rw [chkE] at h
    split at h
    · rename_i g x xs e1
      rw [Bool.and_eq_true, Bool.and_eq_true, Bool.and_eq_true, Bool.and_eq_true, decide_eq_true_eq] at h
      obtain ⟨⟨⟨⟨h1, h2⟩, h0⟩, h3⟩, h4⟩ := h
      obtain ⟨p, rfl⟩ := vCall_eq e1
      obtain ⟨p2, rfl, g1, g2, g3⟩ := ok.gl h1
      obtain ⟨fa, fd, ps, n, m1, m2, m3, m4, m5⟩ := (ok.fns f true h2).ex
      obtain ⟨s1, s2⟩ := noStars_cons h3
      obtain ⟨y, p3, rfl, n1, n2, n3, n4⟩ := ok.nm h0
      exact e_pcall (g_call m4 ok.room ok.gd g1 m1 m2 m3 (pa_cons (pe_var n1 n2 n3 n4) (sndEs es ok s2 h4).frz (star_cons s1 _ _)) g2 (star_cons s1 _ _) (star_plain _ _ _ s2)) m5
    · cases h
  | .bl1 b a, X, sc, e, ok, h => by
    rw [chkE] at h
    split at h
    · rename_i s m g x e0 e1
      rw [Bool.and_eq_true, Bool.and_eq_true, Bool.not_eq_true'] at h
      obtain ⟨⟨h1, h2⟩, h3⟩ := h
      obtain ⟨p, rfl⟩ := vCall_eq e1
      obtain ⟨p2, rfl, g1, g2, g3⟩ := ok.gl h1
      obtain ⟨b1, b2⟩ := boot_b1 e0
      have cr := conv_calls (X := X) e0 ok.calm ok.sy ok.gd ok.u68
      have pa : PA X [x] (tCons (rdO X.K (opd a (wpE T.G C a))) tNil) := pa_cons (sndO_of (sndE a ok h3) (sndO_var ok h3)) pa_nil (star_cons h2 _ _)
      cases m with
      | true => exact e_call1 (pe_callB cr g1 (ok.blt s b1) b2 pa g3 g2 (star_cons h2 _ _) rfl)
      | false => exact e_call1 (pe_callTy cr g1 (ok.blt s b1) b2 pa g3 g2 (star_cons h2 _ _) rfl)
    · rename_i g y e0 e1
      split at h
      · rename_i g2 x e2
        obtain ⟨p, rfl⟩ := vCall_eq e1
        obtain ⟨q, rfl⟩ := vCall_eq e2
        cases b <;> first | (cases e0) | skip
        · dsimp only at h
          rw [Bool.and_eq_true, Bool.and_eq_true, Bool.and_eq_true, Bool.and_eq_true, Bool.not_eq_true', Bool.not_eq_true'] at h
          obtain ⟨h1, h2, hy, hx, h3⟩ := h
          obtain ⟨p2, rfl, g1, g2, g3⟩ := ok.gl h1
          obtain ⟨q2, rfl, k1, k2, k3⟩ := ok.gl h2
          have po := sndO_of (sndE a ok h3) (sndO_var ok h3)
          have pa : PA X [x] (tCons (rdO X.K (opd a (wpE T.G C a))) tNil) := pa_cons po pa_nil (star_cons hx _ _)
          have pi := pe_callTy (pos := q) (p := q2) (cr_setI (X := X) ok.calm) k1 (ok.blt "set" (by decide)) (by decide +kernel) pa k3 k2 (star_cons hx _ _) rfl
          exact e_sortset (pe_callB (cr_sortedSet ok.calm) g1 (ok.blt "sorted" (by decide)) (by decide +kernel) (pa_cons pi pa_nil (star_cons hy _ _)) g3 g2 (star_cons hy _ _) rfl)
        · dsimp only at h
          rw [Bool.and_eq_true, Bool.and_eq_true, Bool.and_eq_true, Bool.and_eq_true, Bool.not_eq_true', Bool.not_eq_true'] at h
          obtain ⟨h1, h2, hy, hx, h3⟩ := h
          obtain ⟨p2, rfl, g1, g2, g3⟩ := ok.gl h1
          obtain ⟨q2, rfl, k1, k2, k3⟩ := ok.gl h2
          have po := sndO_of (sndE a ok h3) (sndO_var ok h3)
          exact e_tuprng (pe_tupRg ok.calm g1 (ok.blt "tuple" (by decide)) (prg_1 k1 (ok.blt "range" (by decide)) po (star_cons hx _ _)) (star_cons hy _ _))
        · dsimp only at h
          split at h
          · rename_i g3e z e3
            rw [Bool.and_eq_true, Bool.and_eq_true, Bool.and_eq_true, Bool.and_eq_true, Bool.and_eq_true, Bool.and_eq_true, Bool.not_eq_true', Bool.not_eq_true', Bool.not_eq_true'] at h
            obtain ⟨h1, h2, h4, hy, hx, hz, h3⟩ := h
            obtain ⟨r, rfl⟩ := vCall_eq e3
            obtain ⟨p2, rfl, g1, g2, g3⟩ := ok.gl h1
            obtain ⟨q2, rfl, k1, k2, k3⟩ := ok.gl h2
            obtain ⟨r2, rfl, m1, m2, m3⟩ := ok.gl h4
            have po := sndO_of (sndE a ok h3) (sndO_var ok h3)
            have pa : PA X [z] (tCons (rdO X.K (opd a (wpE T.G C a))) tNil) := pa_cons po pa_nil (star_cons hz _ _)
            have pl := TZ.pe_listEnum (p := r2) (pos := r) (p2 := q2) (pos2 := q) ok.calm k1 (ok.blt "list" (by decide)) m1 (ok.blt "enumerate" (by decide)) pa (star_cons hz _ _) (star_cons hx _ _)
            exact e_dctenum (pe_callTy (call_dictP ok.calm) g1 (ok.blt "dict" (by decide)) (by decide +kernel) (pa_cons pl pa_nil (star_cons hy _ _)) g3 g2 (star_cons hy _ _) rfl)
          · cases h
      · cases h
    · cases h
  | .bl2 b a a', X, sc, e, ok, h => by
    rw [chkE] at h
    split at h
    · rename_i g x y e1
      rw [Bool.and_eq_true, Bool.and_eq_true, Bool.and_eq_true, Bool.and_eq_true, Bool.not_eq_true', Bool.not_eq_true'] at h
      obtain ⟨⟨⟨⟨h1, h2⟩, h3⟩, h4⟩, h5⟩ := h
      obtain ⟨p, rfl⟩ := vCall_eq e1
      obtain ⟨p2, rfl, g1, g2, g3⟩ := ok.gl h1
      have pa : PA X [x, y] (tCons (rdO X.K (opd a (wpE T.G C a))) (tCons (rdO X.K (opd a' (wpE T.G C a'))) tNil)) :=
        pa_cons (sndO_of (sndE a ok h4) (sndO_var ok h4)) (pa_cons (sndO_of (sndE a' ok h5) (sndO_var ok h5)) pa_nil (star_cons h3 _ _)) (star_cons h2 _ _)
      cases b with
      | min => exact e_call2 (pe_callB (b2_min ok.calm) g1 (ok.blt _ (by decide)) (by decide +kernel) pa g3 g2 (star_cons h2 _ _) (by rw [star_cons h3]; rfl))
      | max => exact e_call2 (pe_callB (b2_max ok.calm) g1 (ok.blt _ (by decide)) (by decide +kernel) pa g3 g2 (star_cons h2 _ _) (by rw [star_cons h3]; rfl))
    · cases h
  | .isi a ts, X, sc, e, ok, h => by
    rw [chkE] at h
    split at h
    · rename_i g x y e1
      rw [Bool.and_eq_true, Bool.and_eq_true, Bool.and_eq_true, Bool.not_eq_true'] at h
      obtain ⟨⟨⟨h1, h2⟩, h3⟩, h4⟩ := h
      obtain ⟨p, rfl⟩ := vCall_eq e1
      obtain ⟨p2, rfl, g1, g2, g3⟩ := ok.gl h1
      have pa := sndO_of (sndE a ok h3) (sndO_var ok h3)
      split at h4
      · rename_i ys e2
        rw [Bool.and_eq_true, Bool.and_eq_true, decide_eq_true_eq] at h4
        obtain ⟨k2, p3, rfl⟩ := vTup_eq e2
        obtain ⟨t1, t2⟩ := tysB_ok ok h4.1.1 h4.1.2
        exact e_isiN t2 (pe_callB call_isiT g1 (ok.blt _ (by decide)) (by decide +kernel) (pa_cons pa (pa_cons (pe_tup t1) pa_nil rfl) (star_cons h2 _ _)) g3 g2 (star_cons h2 _ _) rfl) (by
          rw [List.length_map]; exact Nat.le_trans h4.2 (by decide))
      · rename_i e2
        rw [Bool.and_eq_true, Bool.not_eq_true'] at h4
        obtain ⟨t1, t2⟩ := tysB_ok ok (show noStars [y] = true by unfold noStars; simp [h4.1]) h4.2
        match ts, h4.2 with
        | [t], _ => exact e_isi1 (t2 t List.mem_cons_self) (pe_callB b_isi g1 (ok.blt _ (by decide)) (by decide +kernel) (pa_cons pa t1 (star_cons h2 _ _)) g3 g2 (star_cons h2 _ _) (by rw [star_cons h4.1]; rfl))
        | t :: u :: r, z => rw [tysB, Bool.and_eq_true] at z; exact nomatch z.2
    · cases h
  | .pop i, X, sc, e, ok, h => by
    rw [chkE] at h
    cases e1 : vPop e with
    | none => rw [e1] at h; cases h
    | some x =>
      rw [e1] at h
      obtain ⟨p, q, rfl, hl⟩ := vPop_eq e1
      obtain ⟨y, p3, rfl, n1, n2, n3, n4⟩ := ok.nm h
      exact e_pop n1 n2 n3 n4 (pe_bm0 PySem.F.plainAttrs_list PySem.F.slot_list_pop PySem.F.type_list_pop mt_pop (pe_var n1 n2 n3 n4) rfl hl)
  | .lc a t it c own, X, sc, e, ok, h => by
    rw [chkE] at h
    split at h
    · rename_i x tg i ifs s e1
      rw [Bool.and_eq_true, Bool.and_eq_true, Bool.and_eq_true, Bool.and_eq_true, Bool.and_eq_true, Bool.and_eq_true, Bool.not_eq_true'] at h
      obtain ⟨⟨⟨⟨⟨⟨h1, h2⟩, h3⟩, h4⟩, h5⟩, h6⟩, h7⟩ := h
      obtain ⟨p, rfl⟩ := vLC_eq e1
      have pe := pe_lc (pos := p) (wi := rdI X.K (wpIt T.G C it)) (g := rdG X.K t) (tt := rdT X.K (wpCT T.G C c)) (te := rdF X.K (wpE T.G C a)) ok.calm ok.nd (sndIt (tg := tg) it ok h3) (blk_ok ok h5) (fun s1 H C0 cl fp => sndTG (ok.blk s1 H s C0 cl fp) t h2) (fun s1 H C0 cl fp => sndCT c (ok.blk s1 H s C0 cl fp) h4)
        (fun s1 H C0 cl fp => (sndE a (ok.blk s1 H s C0 cl fp) h1).frz) (noSet_it h7 _)
      rw [ownL_2] at pe
      exact pe.imp fun σ H Q q => rd_lc (fun j hj => of_decide_eq_true (List.all_eq_true.mp h6 j hj)) q
    · cases h
  | .lc2 a t it c t1 it1 c1 own own1, X, sc, e, ok, h => by
    rw [chkE] at h
    split at h
    · rename_i x tg i ifs tg1 i1 ifs1 s e1
      simp only [Bool.and_eq_true, Bool.not_eq_true'] at h
      obtain ⟨⟨⟨⟨⟨⟨⟨⟨⟨⟨⟨⟨h1, h2⟩, h3⟩, h4⟩, k2⟩, k3⟩, k4⟩, h5⟩, h6⟩, k6⟩, k8⟩, h7⟩, k7⟩ := h
      obtain ⟨p, rfl⟩ := vLC2_eq e1
      have mo : ∀ j ∈ own1, j ∈ own := fun j hj => of_decide_eq_true (List.all_eq_true.mp k8 j hj)
      have pe := pe_lc2 (vs1 := own1) (pos := p) (wi := rdI X.K (wpIt T.G C it)) (g := rdG X.K t) (tt := rdT X.K (wpCT T.G C c)) (wi1 := rdI X.K (wpIt T.G C it1)) (g1 := rdG X.K t1) (tt1 := rdT X.K (wpCT T.G C c1)) (te := rdF X.K (wpE T.G C a)) ok.calm ok.nd (sndIt (tg := tg) it ok h3) (blk_ok ok h5) (by rw [ownL_2]; exact mo)
        (fun s1 H C0 cl fp => sndTG (ok.blk s1 H s C0 cl fp) t h2) (fun s1 H C0 cl fp => sndCT c (ok.blk s1 H s C0 cl fp) h4)
        (fun s1 H C0 cl fp => sndIt (tg := tg1) it1 (ok.blk s1 H s C0 cl fp) k3) (fun s1 H C0 cl fp => sndTG (ok.blk s1 H s C0 cl fp) t1 k2) (fun s1 H C0 cl fp => sndCT c1 (ok.blk s1 H s C0 cl fp) k4)
        (fun s1 H C0 cl fp => (sndE a (ok.blk s1 H s C0 cl fp) h1).frz) (noSet_it h7 _) (fun env => noSet_it k7 env)
      rw [ownL_2] at pe
      exact pe.imp fun σ H Q q => rd_lc2 (fun j hj => of_decide_eq_true (List.all_eq_true.mp h6 j hj)) (fun j hj => of_decide_eq_true (List.all_eq_true.mp k6 j hj)) mo q
    · cases h
theorem sndEs : ∀ (as : CEs) {X : Cx} {sc : Scope} {es : List Expr}, XOk T C N k X sc → noStars es = true → chkEs N T as sc es = true → PA X es (rdA X.K (wpEs T.G C as))
  | .nil, X, sc, es, ok, hs, h => by
    have : es = [] := List.isEmpty_iff.mp h
    subst this
    exact pa_nilT
  | .cons a as, X, sc, es, ok, hs, h => by
    cases es with
    | nil => exact nomatch h
    | cons e es =>
      rw [chkEs, Bool.and_eq_true] at h
      obtain ⟨s1, s2⟩ := noStars_cons hs
      exact pa_consT (sndE a ok h.1) (sndEs as ok s2 h.2) (star_cons s1 _ _)
theorem sndCO : ∀ (a : CO) {X : Cx} {sc : Scope} {e : Option Expr}, XOk T C N k X sc → chkCO N T a sc e = true → PO X e (rdCO X.K (wpCO T.G C a))
  | .no, X, sc, e, ok, h => by
    cases e with
    | none => exact co_no
    | some x => exact nomatch h
  | .so a, X, sc, e, ok, h => by
    cases e with
    | none => exact nomatch h
    | some x => exact co_so (sndE a ok h)
theorem sndT : ∀ (a : CT) {X : Cx} {sc : Scope} {e : Expr}, XOk T C N k X sc → chkT N T a sc e = true → PT X e (rdT X.K (wpT T.G C a)) ∧ ((vBool e).isSome = true → PW X e (rdT X.K (wpT T.G C a)))
  | .of a, X, sc, e, ok, h => by
    rw [chkT, Bool.and_eq_true, Bool.or_eq_true] at h
    obtain ⟨h9, h⟩ := h
    refine ⟨?_, fun hb => ?_⟩
    · by_cases hp : plainT e = true
      · exact t_of (sndO_of (sndE a ok h) (sndO_var ok h)) (plain_true hp _)
      · have hc : (vCmp e).isSome = true := h9.resolve_left hp
        cases a with
        | cmp o a b =>
          rw [chkE] at h
          split at h
          · rename_i x o' y e1
            rw [Bool.and_eq_true, Bool.and_eq_true, Bool.and_eq_true, decide_eq_true_eq, Bool.not_eq_true'] at h
            obtain ⟨⟨⟨rfl, h0⟩, h1⟩, h2⟩ := h
            obtain ⟨p, rfl⟩ := vCmp_eq e1
            exact t_cmp ok.u64 (sndO_of (sndE a ok h1) (sndO_var ok h1)) (sndO_of (sndE b ok h2) (sndO_var ok h2)) (noSet_mark h0 _)
          · cases h
        | chn o o' a b c =>
          rw [chkE] at h
          split at h
          · rename_i x q q' y z e1
            rw [Bool.and_eq_true, Bool.and_eq_true, Bool.and_eq_true, Bool.and_eq_true, Bool.and_eq_true, decide_eq_true_eq, decide_eq_true_eq, Bool.not_eq_true'] at h
            obtain ⟨⟨⟨⟨⟨rfl, rfl⟩, h0⟩, h1⟩, h2⟩, h3⟩ := h
            obtain ⟨p, rfl⟩ := vCmp_eq e1
            exact t_chn ok.u64 (sndO_of (sndE a ok h1) (sndO_var ok h1)) (sndO_of (sndE b ok h2) (sndO_var ok h2)) (sndO_of (sndE c ok h3) (sndO_var ok h3)) (noSet_mark h0 _)
          · cases h
        | bl1 b a =>
          cases e with
          | Compare x os ys p => rw [chkE] at h; split at h <;> first | cases h | (rename_i z; exact nomatch z)
          | _ => exact nomatch hc
        | _ =>
          cases e with
          | Compare x os ys p => exact nomatch h
          | _ => exact nomatch hc
    · cases e with
      | BoolOp o es p => exact nomatch h9
      | _ => exact nomatch hb
  | .and a b, X, sc, e, ok, h => by
    rw [chkT] at h
    split at h
    · rename_i x y p e1
      rw [Bool.and_eq_true] at h
      cases vBool_eq e1
      have := w_and (pos := p) (sndT a ok h.1).1 (pw_and1 (sndT b ok h.2).1)
      exact ⟨this.pt, fun _ => this⟩
    · rename_i x y z r p e1
      rw [Bool.and_eq_true] at h
      cases vBool_eq e1
      have := w_and (pos := p) (sndT a ok h.1).1 ((sndT b ok h.2).2 rfl)
      exact ⟨this.pt, fun _ => this⟩
    · cases h
  | .or a b, X, sc, e, ok, h => by
    rw [chkT] at h
    split at h
    · rename_i x y p e1
      rw [Bool.and_eq_true] at h
      cases vBool_eq e1
      have := w_or (pos := p) (sndT a ok h.1).1 (pw_or1 (sndT b ok h.2).1)
      exact ⟨this.pt, fun _ => this⟩
    · rename_i x y z r p e1
      rw [Bool.and_eq_true] at h
      cases vBool_eq e1
      have := w_or (pos := p) (sndT a ok h.1).1 ((sndT b ok h.2).2 rfl)
      exact ⟨this.pt, fun _ => this⟩
    · cases h
  | .nt a, X, sc, e, ok, h => by
    rw [chkT] at h
    cases e1 : vUn e with
    | none => rw [e1] at h; cases h
    | some z =>
      obtain ⟨o, x⟩ := z
      rw [e1] at h
      dsimp only at h
      rw [Bool.and_eq_true, decide_eq_true_eq] at h
      obtain ⟨rfl, h1⟩ := h
      obtain ⟨p, rfl⟩ := vUn_eq e1
      exact ⟨t_not (sndT a ok h1).1, fun z => nomatch z⟩
  | .ite c a b, X, sc, e, ok, h => by
    rw [chkT] at h
    cases e1 : vIf e with
    | none => rw [e1] at h; cases h
    | some z =>
      obtain ⟨u, x, y⟩ := z
      rw [e1] at h
      dsimp only at h
      rw [Bool.and_eq_true, Bool.and_eq_true] at h
      obtain ⟨⟨h1, h2⟩, h3⟩ := h
      obtain ⟨p, rfl⟩ := vIf_eq e1
      exact ⟨t_ite (sndT c ok h1).1 (sndT a ok h2).1 (sndT b ok h3).1, fun z => nomatch z⟩
theorem sndCT : ∀ (a : CTO) {X : Cx} {sc : Scope} {es : List Expr}, XOk T C N k X sc → chkCT N T a sc es = true → PTs X es (rdT X.K (wpCT T.G C a))
  | .no, X, sc, es, ok, h => by
    have : es = [] := List.isEmpty_iff.mp h
    subst this
    exact ⟨fun pins s0 σ H Q I ⟨F, ρ, Qt, s, hw, k⟩ => pts_nil.run pins s0 σ H Q I (k _ _ _ _ hw .refl s)⟩
  | .so t, X, sc, es, ok, h => by
    match es, h with
    | [], h => exact nomatch h
    | [x], h => exact pts_one (sndT t ok h).1
    | x :: y :: r, h => exact nomatch h
theorem sndIt : ∀ (a : IT) {X : Cx} {sc : Scope} {tg e : Expr}, XOk T C N k X sc → chkIt N T a sc tg e = true → PI X tg e (rdI X.K (wpIt T.G C a))
  | .of a, X, sc, tg, e, ok, h => i_of (sndE a ok h)
  | .rng1 a, X, sc, tg, e, ok, h => by
    rw [chkIt] at h
    split at h
    · rename_i g x e1
      rw [Bool.and_eq_true, Bool.and_eq_true, Bool.not_eq_true'] at h
      obtain ⟨⟨h1, h2⟩, h3⟩ := h
      obtain ⟨p, rfl⟩ := vCall_eq e1
      obtain ⟨p2, rfl, g1, g2, g3⟩ := ok.gl h1
      exact i_rng1 g1 (ok.blt _ (by decide)) (sndE a ok h3) (star_cons h2 _ _)
    · cases h
  | .rng2 a b, X, sc, tg, e, ok, h => by
    rw [chkIt] at h
    split at h
    · rename_i g x y e1
      rw [Bool.and_eq_true, Bool.and_eq_true, Bool.and_eq_true, Bool.and_eq_true, Bool.not_eq_true', Bool.not_eq_true'] at h
      obtain ⟨⟨⟨⟨h1, h2⟩, h3⟩, h4⟩, h5⟩ := h
      obtain ⟨p, rfl⟩ := vCall_eq e1
      obtain ⟨p2, rfl, g1, g2, g3⟩ := ok.gl h1
      exact i_rng2 g1 (ok.blt _ (by decide)) (sndE a ok h4) (sndE b ok h5) (star_cons h2 _ _) (star_cons h3 _ _)
    · cases h
  | .rng3 a b c, X, sc, tg, e, ok, h => by
    rw [chkIt] at h
    split at h
    · rename_i g x y z e1
      rw [Bool.and_eq_true, Bool.and_eq_true, Bool.and_eq_true, Bool.and_eq_true, Bool.and_eq_true, Bool.and_eq_true, Bool.not_eq_true', Bool.not_eq_true', Bool.not_eq_true'] at h
      obtain ⟨⟨⟨⟨⟨⟨h1, h2⟩, h3⟩, h4⟩, h5⟩, h6⟩, h7⟩ := h
      obtain ⟨p, rfl⟩ := vCall_eq e1
      obtain ⟨p2, rfl, g1, g2, g3⟩ := ok.gl h1
      refine i_rng3 g1 (ok.blt _ (by decide)) (sndE a ok h5) (sndE b ok h6) ?_ (star_cons h2 _ _) (star_cons h3 _ _) (star_cons h4 _ _)
      split at h7
      · rename_i i e2
        cases of_decide_eq_true h7
        obtain ⟨k1, p3, rfl⟩ := vConst_eq e2
        exact pe_int
      · rename_i z' e2 _
        obtain ⟨p3, rfl⟩ := vUn_eq e2
        split at h7
        · rename_i i e3
          cases of_decide_eq_true h7
          obtain ⟨k1, p4, rfl⟩ := vConst_eq e3
          exact (pe_un un_neg pe_int).imp fun σ H Q h => ⟨_, rfl, h⟩
        · cases h7
      · cases h7
    · cases h
  | .rev a, X, sc, tg, e, ok, h => by
    rw [chkIt] at h
    split at h
    · rename_i g x e1
      rw [Bool.and_eq_true, Bool.and_eq_true, Bool.not_eq_true'] at h
      obtain ⟨⟨h1, h2⟩, h3⟩ := h
      obtain ⟨p, rfl⟩ := vCall_eq e1
      obtain ⟨p2, rfl, g1, g2, g3⟩ := ok.gl h1
      exact i_rev g1 (ok.blt _ (by decide)) (sndE a ok h3) (star_cons h2 _ _)
    · cases h
  | .enum a, X, sc, tg, e, ok, h => by
    rw [chkIt] at h
    split at h
    · rename_i g x e1
      rw [Bool.and_eq_true, Bool.and_eq_true, Bool.and_eq_true, Bool.not_eq_true'] at h
      obtain ⟨⟨⟨h1, h2⟩, h3⟩, h4⟩ := h
      obtain ⟨ts, h4⟩ := Option.isSome_iff_exists.mp h4
      obtain ⟨k4, p4, rfl⟩ := vTup_eq h4
      obtain ⟨p, rfl⟩ := vCall_eq e1
      obtain ⟨p2, rfl, g1, g2, g3⟩ := ok.gl h1
      exact i_enum g1 (ok.blt _ (by decide)) (sndE a ok h3) (star_cons h2 _ _)
    · cases h
  | .zip a b none, X, sc, tg, e, ok, h => by
    have h0 : (match vCall e with
      | some (g, [x, y]) => glB sc "zip" g && !starB x && !starB y && chkE N T a sc x && chkE N T b sc y && (vTup tg).isSome
      | _ => false) = true := by rw [chkIt] at h; exact h
    split at h0
    · rename_i g x y e1
      rw [Bool.and_eq_true, Bool.and_eq_true, Bool.and_eq_true, Bool.and_eq_true, Bool.and_eq_true, Bool.not_eq_true', Bool.not_eq_true'] at h0
      obtain ⟨⟨⟨⟨⟨h1, h2⟩, h3⟩, h4⟩, h5⟩, h6⟩ := h0
      obtain ⟨ts, h6⟩ := Option.isSome_iff_exists.mp h6
      obtain ⟨k4, p4, rfl⟩ := vTup_eq h6
      obtain ⟨p, rfl⟩ := vCall_eq e1
      obtain ⟨p2, rfl, g1, g2, g3⟩ := ok.gl h1
      exact i_zip (sb := false) (fun z => nomatch z) (TZ.pi_zip2 g1 (ok.blt _ (by decide)) (pa_cons (sndE a ok h4).frz (pa_cons (sndE b ok h5).frz pa_nil (star_cons h3 _ _)) (star_cons h2 _ _)) (star_cons h2 _ _) (by rw [star_cons h3]; rfl))
    · cases h0
  | .zip a b (some sb), X, sc, tg, e, ok, h => by
    have h0 : (match vCallK e with
      | some (g, [x, y], k) => glB sc "zip" g && decide (k = sb) && !starB x && !starB y && chkE N T a sc x && chkE N T b sc y && (vTup tg).isSome
      | _ => false) = true := by rw [chkIt] at h; exact h
    split at h0
    · rename_i g x y k e1
      rw [Bool.and_eq_true, Bool.and_eq_true, Bool.and_eq_true, Bool.and_eq_true, Bool.and_eq_true, Bool.and_eq_true, decide_eq_true_eq, Bool.not_eq_true', Bool.not_eq_true'] at h0
      obtain ⟨⟨⟨⟨⟨⟨h1, rfl⟩, h2⟩, h3⟩, h4⟩, h5⟩, h6⟩ := h0
      obtain ⟨ts, h6⟩ := Option.isSome_iff_exists.mp h6
      obtain ⟨k4, p4, rfl⟩ := vTup_eq h6
      obtain ⟨ck, cp, kp, p, rfl⟩ := vCallK_eq e1
      obtain ⟨p2, rfl, g1, g2, g3⟩ := ok.gl h1
      exact i_zip (sb := k) (fun z => by rw [z]) (TZ.pi_zipK g1 (ok.blt _ (by decide)) (pa_cons (sndE a ok h4).frz (pa_cons (sndE b ok h5).frz pa_nil (star_cons h3 _ _)) (star_cons h2 _ _)) (star_cons h2 _ _) (by rw [star_cons h2, star_cons h3]; rfl))
    · cases h0
end
end
end TL
end
section
set_option autoImplicit false
set_option maxHeartbeats 4000000
/-! TL15: statements: the checker, and what it has passed -/
namespace TL
open PySem PySem.Spec PyProof.Rows L2

/-! ### views -/
def vAsg : Stmt → Option (Expr × Expr) | .Assign [t] v _ => some (t, v) | _ => none
def vAug : Stmt → Option (Expr × Operator × Expr) | .AugAssign t o v _ => some (t, o, v) | _ => none
def vExp : Stmt → Option Expr | .Expr v _ => some v | _ => none
def vIfS : Stmt → Option (Expr × List Stmt × List Stmt) | .If t a b _ => some (t, a, b) | _ => none
def vFor : Stmt → Option (Expr × Expr × List Stmt) | .For t i b [] _ => some (t, i, b) | _ => none
def vWhl : Stmt → Option (Expr × List Stmt) | .While t b [] _ => some (t, b) | _ => none
def vRet : Stmt → Option (Option Expr) | .Return e _ => some e | _ => none
def vPas : Stmt → Bool | .Pass _ => true | _ => false
def vBrk : Stmt → Bool | .Break _ => true | _ => false
def vCnt : Stmt → Bool | .Continue _ => true | _ => false
theorem vAsg_eq {s : Stmt} {t v : Expr} (h : vAsg s = some (t, v)) : ∃ p, s = .Assign [t] v p := by
  unfold vAsg at h; split at h
  · cases h; exact ⟨_, rfl⟩
  · cases h
theorem vAug_eq {s : Stmt} {t v : Expr} {o : Operator} (h : vAug s = some (t, o, v)) : ∃ p, s = .AugAssign t o v p := by
  unfold vAug at h; split at h
  · cases h; exact ⟨_, rfl⟩
  · cases h
theorem vExp_eq {s : Stmt} {v : Expr} (h : vExp s = some v) : ∃ p, s = .Expr v p := by
  unfold vExp at h; split at h
  · cases h; exact ⟨_, rfl⟩
  · cases h
theorem vIfS_eq {s : Stmt} {t : Expr} {a b : List Stmt} (h : vIfS s = some (t, a, b)) : ∃ p, s = .If t a b p := by
  unfold vIfS at h; split at h
  · cases h; exact ⟨_, rfl⟩
  · cases h
theorem vFor_eq {s : Stmt} {t i : Expr} {b : List Stmt} (h : vFor s = some (t, i, b)) : ∃ p, s = .For t i b [] p := by
  unfold vFor at h; split at h
  · cases h; exact ⟨_, rfl⟩
  · cases h
theorem vWhl_eq {s : Stmt} {t : Expr} {b : List Stmt} (h : vWhl s = some (t, b)) : ∃ p, s = .While t b [] p := by
  unfold vWhl at h; split at h
  · cases h; exact ⟨_, rfl⟩
  · cases h
theorem vRet_eq {s : Stmt} {e : Option Expr} (h : vRet s = some e) : ∃ p, s = .Return e p := by
  unfold vRet at h; split at h
  · cases h; exact ⟨_, rfl⟩
  · cases h
theorem vPas_eq {s : Stmt} (h : vPas s = true) : ∃ p, s = .Pass p := by
  unfold vPas at h; split at h
  · exact ⟨_, rfl⟩
  · cases h
theorem vBrk_eq {s : Stmt} (h : vBrk s = true) : ∃ p, s = .Break p := by
  unfold vBrk at h; split at h
  · exact ⟨_, rfl⟩
  · cases h
theorem vCnt_eq {s : Stmt} (h : vCnt s = true) : ∃ p, s = .Continue p := by
  unfold vCnt at h; split at h
  · exact ⟨_, rfl⟩
  · cases h
/-- x.append(e) -/
def vApp : Expr → Option (Expr × Expr) | .Call (.Attribute o n p) [a] [] q => if decide (n = ("append" : Str)) && (p.endLine == q.line) then some (o, a) else none | _ => none
theorem vApp_eq {e o a : Expr} (h : vApp e = some (o, a)) : ∃ p q, e = .Call (.Attribute o ("append" : Str) p) [a] [] q ∧ (p.endLine == q.line) = true := by
  unfold vApp at h
  split at h
  · split at h
    · rename_i h2
      rw [Bool.and_eq_true, decide_eq_true_eq] at h2
      cases h
      obtain ⟨rfl, h2⟩ := h2
      exact ⟨_, _, rfl, h2⟩
    · cases h
  · cases h
/-- name = [..] where the comprehension uses the name's store -/
def swapF (sc : Scope) (tg e : Expr) : Bool := match tg, vLCs e with
    | .Name t pos, some s => sc.names.lookup t == some .local && pos.line == e.pos.line && !(s.names.any fun (n, k) => n == t && (k == .local || k == .cell))
    | _, _ => false
where vLCs : Expr → Option Scope
  | .ListComp _ _ s _ => some s
  | .SetComp _ _ s _ => some s
  | .DictComp _ _ _ s _ => some s
  | _ => none
theorem swapF_ok {env : PySem.Env} {tg e : Expr} {l : Nat} (hk : env.scope.kind = .function) : swapsWith e (some tg) l env = pure (swapF env.scope tg e) := by
  have hb : env.blockKind = .function := by unfold Env.blockKind; rw [hk]; rfl
  cases e <;> first
    | (cases tg <;> first
        | rfl
        | (unfold swapsWith swapF
           simp only [hb, Expr.pos]
           rfl))
    | (unfold swapsWith swapF; cases tg <;> rfl)
/-- a single store: no swap of a tuple's stores -/
def soleB (sc : Scope) (tg e : Expr) : Bool := match vTup tg with
    | some ts => (match vTup e with
      | some vs => decide (parHow sc ts vs = some false)
      | none => true)
    | none => (vName tg).isSome
theorem soleB_ok {env : PySem.Env} {tg e : Expr} (hk : env.scope.kind = .function) (h : soleB env.scope tg e = true) : swappedStores [tg] e env = pure none := by
  unfold soleB at h
  cases e1 : vTup tg with
  | none =>
    rw [e1] at h
    cases tg <;> first | rfl | exact nomatch h
  | some ts =>
    rw [e1] at h
    obtain ⟨k1, p1, rfl⟩ := vTup_eq e1
    dsimp only at h
    cases e2 : vTup e with
    | none => cases e <;> first | rfl | exact nomatch e2
    | some vs =>
      rw [e2] at h
      obtain ⟨k2, p2, rfl⟩ := vTup_eq e2
      have := parHow_ok (k := k1) (k' := k2) (p := p1) (p' := p2) hk (of_decide_eq_true h)
      rw [this]; rfl
section
variable (N : List Str) (T : Tb)
/-- names at places -/
def chkIs (sc : Scope) : List Nat → List Expr → Bool
  | [], [] => true
  | i :: is, e :: es => stB N sc i e && chkIs sc is es
  | _, _ => false
def isVarE : CE → Option Nat
  | .var i => some i
  | _ => none
mutual
def chkS (sc : Scope) : CS → Stmt → Bool
  | .asg t e, st => match vAsg st with
    | some (tg, v) => chkTG N sc t tg && chkE N T e sc v && !starB tg && (match swapF sc tg v with
      | true => (match t, vName tg, vLC v with
        | .var _, some y, some _ => decide (sc.names.lookup y = some .local)
        | _, _, _ => false)
      | false => soleB sc tg v)
    | none => false
  | .par is es, st => match vAsg st with
    | some (tg, v) => (match vTup tg, vTup v with
      | some ts, some vs => chkIs N sc is ts && noStars ts && noStars vs && chkEs N T es sc vs && decide (is.length ≤ 20) && (match parHow sc ts vs with
        | some false => true
        | some true => decide (is.Nodup) && (ts.all fun e => match vName e with | some x => decide (sc.names.lookup x = some .local) | none => false) && decide (some (parIds sc (headLine ts) ts) = ts.mapM vName)
        | none => false)
      | _, _ => false)
    | none => false
  | .sub i ix e, st => match vAsg st with
    | some (tg, v) => (match vSub tg with
      | some (x, y) => nmB N sc i x && !sliceB y && chkE N T ix sc y && chkE N T e sc v
      | none => false)
    | none => false
  | .swp i j1 j2 e1 e2, st => match vAsg st with
    | some (tg, v) => (match vTup tg, vTup v with
      | some [t1, t2], some [v1, v2] => (match vSub t1, vSub t2 with
        | some (x1, y1), some (x2, y2) => nmB N sc i x1 && nmB N sc i x2 && !sliceB y1 && !sliceB y2 && chkE N T j1 sc y1 && chkE N T j2 sc y2 && noStars [v1, v2] && chkE N T e1 sc v1 && chkE N T e2 sc v2 && decide (parHow sc [t1, t2] [v1, v2] = some false)
        | _, _ => false)
      | _, _ => false)
    | none => false
  | .aug i o e, st => match vAug st with
    | some (t, o', v) => decide (o = o') && stB N sc i t && chkE N T e sc v
    | none => false
  | .augs i ix o e, st => match vAug st with
    | some (t, o', v) => (match vSub t with
      | some (x, y) => decide (o = o') && nmB N sc i x && !sliceB y && chkE N T ix sc y && chkE N T e sc v
      | none => false)
    | none => false
  | .exp e, st => match vExp st with
    | some v => !compB v && chkE N T e sc v
    | none => false
  | .app i e, st => match vExp st with
    | some v => (match vApp v with
      | some (o, a) => nmB N sc i o && !starB a && chkE N T e sc a
      | none => false)
    | none => false
  | .ite t a b, st => match vIfS st with
    | some (u, x, y) => chkT N T t sc u && chkSs sc a x && chkSs sc b y
    | none => false
  | .for t it b, st => match vFor st with
    | some (tg, i, x) => chkTG N sc t tg && chkIt N T it sc tg i && !setB i && chkSs sc b x
    | none => false
  | .whl t b, st => match vWhl st with
    | some (u, x) => chkT N T t sc u && chkSs sc b x
    | none => false
  | .ret e, st => match vRet st with
    | some (some v) => (match isVarE e with
      | some i => nmB N sc i v
      | none => chkE N T e sc v)
    | _ => false
  | .retN, st => match vRet st with
    | some none => true
    | _ => false
  | .brk, st => vBrk st
  | .cnt, st => vCnt st
  | .pas, st => vPas st
def chkSs (sc : Scope) : CSs → List Stmt → Bool
  | .nil, xs => xs.isEmpty
  | .cons s ss, xs => match xs with
    | x :: xs => chkS sc s x && chkSs sc ss xs
    | [] => false
end
end
structure SOk (T : Tb) (C : CallW) (N : List Str) (k : Nat) (X : Cx) (sc : Scope) : Prop extends XOk T C N k X sc where
  es : X.env.scope = sc
  kd : sc.kind = .function
  xf : X.xe = fun _ _ => False
section
variable {T : Tb} {C : CallW} {N : List Str} {k : Nat} {X : Cx} {sc : Scope}
theorem SOk.fk (ok : SOk T C N k X sc) : X.env.scope.kind = .function := by rw [ok.es]; exact ok.kd
theorem SOk.own (ok : SOk T C N k X sc) : PassesOwn (model X.prog X.w) X.A X.env X.xe := by rw [ok.xf]; exact PassesOwn.never
theorem chkIs_ok (ok : XOk T C N k X sc) : ∀ {is : List Nat} {es : List Expr}, noStars es = true → chkIs N sc is es = true → PGs X es (gAll is) ∧ (assignEach es X.env).length = is.length ∧ es.length = is.length
  | [], [], _, _ => ⟨pg_all_nil, rfl, rfl⟩
  | i :: is, e :: es, hs, h => by
    rw [chkIs, Bool.and_eq_true] at h
    obtain ⟨s1, s2⟩ := noStars_cons hs
    obtain ⟨h1, h2, h3⟩ := chkIs_ok ok s2 h.2
    obtain ⟨x, p, rfl, a1, a2, a3⟩ := ok.st h.1
    refine ⟨pg_all_cons ok.nd a1 a2 a3 h1, ?_, by simp [h3]⟩
    rw [asg_cons s1]
    simp [h2]
  | [], _ :: _, _, h => nomatch h
  | _ :: _, [], _, h => nomatch h
theorem s_asgNm {st : Stmt} {w : WE} {te : TE} {i : Nat} (h : PS X st (tAsg te (gName i))) (imp : ∀ σ H Q, rdE X.K w σ H Q → te σ H Q) : PS X st (rdS X.K fun ρ E => w ρ fun r ρ1 => wpTG (.var i) r ρ1 E.nx) :=
  h.imp fun D σ H ⟨F, ρ, E, s, hw, ok⟩ => imp _ _ _ ⟨F, ρ, _, s, hw, fun r ρ1 v F1 H1 q st s1 rv => by
    obtain ⟨st2, s2⟩ := s1.store st q.1 rv
    exact ok.nx _ _ _ _ q.2 st2 s2⟩
theorem parHow_len {ts vs : List Expr} (h : parHow sc ts vs = some true) : (ts.length = 2 ∨ ts.length = 3) ∧ vs.length = ts.length := by
  unfold parHow at h
  by_cases c : (!(ts.length == 2 || ts.length == 3) || vs.length != ts.length) = true
  · rw [if_pos c] at h; cases h
  · simp only [Bool.or_eq_true, Bool.not_eq_true', Bool.or_eq_false_iff, not_or, bne_iff_ne, ne_eq, Decidable.not_not, beq_eq_false_iff_ne] at c
    exact ⟨by have := c.1; omega, c.2⟩
theorem localNames {ts : List Expr} (h : (ts.all fun e => match vName e with | some x => decide (sc.names.lookup x = some .local) | none => false) = true) : ∀ e ∈ ts, ∃ x p, e = .Name x p ∧ sc.names.lookup x = some .local := by
  intro e he
  have := List.all_eq_true.mp h e he
  cases e1 : vName e with
  | none => rw [e1] at this; cases this
  | some x =>
    rw [e1] at this
    obtain ⟨p, rfl⟩ := vName_eq e1
    exact ⟨x, p, rfl, of_decide_eq_true this⟩
theorem nmAt {is : List Nat} {x : Str} {p : Pos} {i : Nat} {es : List Expr} (ok : XOk T C N k X sc) (h : chkIs N sc (i :: is) (.Name x p :: es) = true) : X.N[i]? = some x ∧ chkIs N sc is es = true := by
  rw [chkIs, Bool.and_eq_true] at h
  obtain ⟨y, q, e, a, _⟩ := ok.st h.1
  cases e
  exact ⟨a, h.2⟩
mutual
theorem sndS (ok : SOk T C N k X sc) : ∀ (s : CS) {st : Stmt}, chkS N T sc s st = true → PS X st (rdS X.K (wpS T.G C s))
  | .asg t e, st, h => by
    rw [chkS] at h
    cases e1 : vAsg st with
    | none => rw [e1] at h; cases h
    | some z =>
      obtain ⟨tg, v⟩ := z
      rw [e1] at h
      dsimp only at h
      obtain ⟨p, rfl⟩ := vAsg_eq e1
      rw [Bool.and_eq_true, Bool.and_eq_true, Bool.and_eq_true, Bool.not_eq_true'] at h
      obtain ⟨⟨⟨h1, h2⟩, h3⟩, h4⟩ := h
      have sw := swapF_ok (tg := tg) (e := v) (l := p.line) ok.fk
      rw [ok.es] at sw
      cases e2 : swapF sc tg v with
      | false =>
        rw [e2] at h4 sw
        exact s_asg (sndE e ok.toXOk h2) (sndTG ok.toXOk t h1) sw (soleB_ok ok.fk (by rw [ok.es]; exact h4)) (by rw [asg_cons h3]; rfl)
      | true =>
        rw [e2] at h4 sw
        dsimp only at h4
        split at h4
        · rename_i i y z e3 e4
          obtain ⟨x, py, rfl, a1, a2, a3⟩ := ok.toXOk.st (show stB N sc i tg = true by rw [chkTG] at h1; exact h1)
          cases e3
          obtain ⟨elt, tg2, it2, ifs, s2⟩ := z
          obtain ⟨pv, rfl⟩ := vLC_eq e4
          cases e with
          | lc a t1 it c own =>
            rw [chkE] at h2
            rw [e4] at h2
            dsimp only at h2
            rw [Bool.and_eq_true, Bool.and_eq_true, Bool.and_eq_true, Bool.and_eq_true, Bool.and_eq_true, Bool.and_eq_true, Bool.not_eq_true'] at h2
            obtain ⟨⟨⟨⟨⟨⟨b1, b2⟩, b3⟩, b4⟩, b5⟩, b6⟩, b7⟩ := h2
            have xk := ok.toXOk
            have pe := ps_setLc (pos := pv) (py := py) (spos := p) (wi := rdI X.K (wpIt T.G C it)) (g := rdG X.K t1) (tt := rdT X.K (wpCT T.G C c)) (te := rdF X.K (wpE T.G C a)) ok.calm ok.nd a1 (by rw [ok.es]; exact of_decide_eq_true h4) sw
              (sndIt (tg := tg2) it xk b3) (blk_ok xk b5) (fun s1 H C0 cl fp => sndTG (xk.blk s1 H s2 C0 cl fp) t1 b2) (fun s1 H C0 cl fp => sndCT c (xk.blk s1 H s2 C0 cl fp) b4)
              (fun s1 H C0 cl fp => (sndE a (xk.blk s1 H s2 C0 cl fp) b1).frz) (noSet_it b7 _)
            rw [ownL_2] at pe
            exact s_asgNm pe fun σ H Q q => rd_lc (fun j hj => of_decide_eq_true (List.all_eq_true.mp b6 j hj)) q
          | bl1 b a => rw [chkE] at h2; split at h2 <;> first | cases h2 | (rename_i z; exact nomatch z)
          | _ => exact nomatch h2
        · cases h4
  | .par is es, st, h => by
    rw [chkS] at h
    cases e1 : vAsg st with
    | none => rw [e1] at h; cases h
    | some z =>
      obtain ⟨tg, v⟩ := z
      rw [e1] at h
      dsimp only at h
      obtain ⟨p, rfl⟩ := vAsg_eq e1
      split at h
      · rename_i ts vs e2 e3
        obtain ⟨k2, p2, rfl⟩ := vTup_eq e2
        obtain ⟨k3, p3, rfl⟩ := vTup_eq e3
        rw [Bool.and_eq_true, Bool.and_eq_true, Bool.and_eq_true, Bool.and_eq_true, Bool.and_eq_true, decide_eq_true_eq] at h
        obtain ⟨⟨⟨⟨⟨h1, h2⟩, h3⟩, h4⟩, h5⟩, h6⟩ := h
        obtain ⟨g1, g2, g3⟩ := chkIs_ok ok.toXOk h2 h1
        have pa := sndEs es ok.toXOk h3 h4
        cases e4 : parHow sc ts vs with
        | none => rw [e4] at h6; cases h6
        | some b =>
          have hw := parHow_ok (k := k2) (k' := k3) (p := p2) (p' := p3) ok.fk (by rw [ok.es]; exact e4)
          cases b with
          | false =>
            exact s_parT (ps_asg (pe_tup pa) (pg_tup ok.calm g1 g2 (asg_find _ _ h2)) rfl hw rfl) (Nat.le_trans h5 (by decide))
          | true =>
            rw [e4] at h6
            dsimp only at h6
            rw [if_pos rfl, ok.es] at hw
            rw [Bool.and_eq_true, Bool.and_eq_true, decide_eq_true_eq, decide_eq_true_eq] at h6
            obtain ⟨⟨h7, h8⟩, h9⟩ := h6
            obtain ⟨l1, l2⟩ := parHow_len e4
            have lo := localNames h8
            rcases l1 with l1 | l1
            · match ts, vs, is, l1, l1 ▸ l2, l1 ▸ g3 with
              | [t1, t2], [a, b], [i, j], _, _, _ =>
                obtain ⟨x, px, rfl, lx⟩ := lo t1 (by simp)
                obtain ⟨y, py, rfl, ly⟩ := lo t2 (by simp)
                obtain ⟨n1, h1⟩ := nmAt ok.toXOk h1
                obtain ⟨n2, h1⟩ := nmAt ok.toXOk h1
                have e9 : parIds sc (headLine [Expr.Name x px, Expr.Name y py]) [Expr.Name x px, Expr.Name y py] = [x, y] := Option.some.inj h9
                rw [e9] at hw
                exact s_par2 (ps_par ok.calm ok.nd n1 n2 (by simpa using h7) (by rw [ok.es]; exact lx) (by rw [ok.es]; exact ly) pa hw rfl)
            · match ts, vs, is, l1, l1 ▸ l2, l1 ▸ g3 with
              | [t1, t2, t3], [a, b, c], [i, j, l], _, _, _ =>
                obtain ⟨x, px, rfl, lx⟩ := lo t1 (by simp)
                obtain ⟨y, py, rfl, ly⟩ := lo t2 (by simp)
                obtain ⟨z, pz, rfl, lz⟩ := lo t3 (by simp)
                obtain ⟨n1, h1⟩ := nmAt ok.toXOk h1
                obtain ⟨n2, h1⟩ := nmAt ok.toXOk h1
                obtain ⟨n3, h1⟩ := nmAt ok.toXOk h1
                have e9 : parIds sc (headLine [Expr.Name x px, Expr.Name y py, Expr.Name z pz]) [Expr.Name x px, Expr.Name y py, Expr.Name z pz] = [x, y, z] := Option.some.inj h9
                rw [e9] at hw
                have nd : (i ≠ j ∧ i ≠ l) ∧ j ≠ l := by simpa using h7
                exact s_par3 (ps_par3 ok.calm ok.nd n1 n2 n3 nd.1.1 nd.1.2 nd.2 (by rw [ok.es]; exact lx) (by rw [ok.es]; exact ly) (by rw [ok.es]; exact lz) pa hw rfl)
      · cases h
  | .sub i ix e, st, h => by
    rw [chkS] at h
    cases e1 : vAsg st with
    | none => rw [e1] at h; cases h
    | some z =>
      obtain ⟨tg, v⟩ := z
      rw [e1] at h
      dsimp only at h
      obtain ⟨p, rfl⟩ := vAsg_eq e1
      cases e2 : vSub tg with
      | none => rw [e2] at h; cases h
      | some z =>
        obtain ⟨x, y⟩ := z
        rw [e2] at h
        dsimp only at h
        rw [Bool.and_eq_true, Bool.and_eq_true, Bool.and_eq_true, Bool.not_eq_true'] at h
        obtain ⟨⟨⟨h1, h2⟩, h3⟩, h4⟩ := h
        obtain ⟨p2, rfl⟩ := vSub_eq e2
        obtain ⟨x, p3, rfl, n1, n2, n3, n4⟩ := ok.toXOk.nm h1
        exact s_sub (sndE e ok.toXOk h4) (g_sub n1 n2 n3 n4 (sndE ix ok.toXOk h3) (sub_assign _ h2)) (swapF_ok (tg := .Subscript (.Name x p3) y p2) (e := v) (l := p.line) ok.fk) rfl rfl
  | .swp i j1 j2 a1 a2, st, h => by
    rw [chkS] at h
    cases e1 : vAsg st with
    | none => rw [e1] at h; cases h
    | some z =>
      obtain ⟨tg, v⟩ := z
      rw [e1] at h
      dsimp only at h
      obtain ⟨p, rfl⟩ := vAsg_eq e1
      split at h
      · rename_i t1 t2 v1 v2 e2 e3
        obtain ⟨k2, p2, rfl⟩ := vTup_eq e2
        obtain ⟨k3, p3, rfl⟩ := vTup_eq e3
        split at h
        · rename_i x1 y1 x2 y2 e4 e5
          obtain ⟨q1, rfl⟩ := vSub_eq e4
          obtain ⟨q2, rfl⟩ := vSub_eq e5
          simp only [Bool.and_eq_true, Bool.not_eq_true', decide_eq_true_eq] at h
          obtain ⟨⟨⟨⟨⟨⟨⟨⟨⟨h1, h2⟩, h3⟩, h4⟩, h5⟩, h6⟩, h7⟩, h8⟩, h9⟩, h10⟩ := h
          obtain ⟨x1, b1, rfl, n1, n2, n3, n4⟩ := ok.toXOk.nm h1
          obtain ⟨x2, b2, rfl, m1, m2, m3, m4⟩ := ok.toXOk.nm h2
          have hw := parHow_ok (k := k2) (k' := k3) (p := p2) (p' := p3) ok.fk (by rw [ok.es]; exact h10)
          have pa := sndEs (.cons a1 (.cons a2 .nil)) ok.toXOk h7 (show chkEs N T (.cons a1 (.cons a2 .nil)) sc [v1, v2] = true by simp [chkEs, h8, h9])
          refine s_swp (ps_asg (e_tup pa) (pg_tup ok.calm (pgs_cons (g_sub n1 n2 n3 n4 (sndE j1 ok.toXOk h5) (sub_assign _ h3)) (pgs_cons (g_sub m1 m2 m3 m4 (sndE j2 ok.toXOk h6) (sub_assign _ h4)) pgs_nil rfl) rfl) rfl rfl) rfl hw rfl)
        · cases h
      · cases h
  | .aug i o e, st, h => by
    rw [chkS] at h
    cases e1 : vAug st with
    | none => rw [e1] at h; cases h
    | some z =>
      obtain ⟨tg, o', v⟩ := z
      rw [e1] at h
      dsimp only at h
      obtain ⟨p, rfl⟩ := vAug_eq e1
      rw [Bool.and_eq_true, Bool.and_eq_true, decide_eq_true_eq] at h
      obtain ⟨⟨rfl, h1⟩, h2⟩ := h
      obtain ⟨x, py, rfl, a1, a2, a3⟩ := ok.toXOk.st h1
      exact s_aug (ps_aug ok.nd a1 a2 (sndE e ok.toXOk h2).frz (op_aug o) a3)
  | .augs i ix o e, st, h => by
    rw [chkS] at h
    cases e1 : vAug st with
    | none => rw [e1] at h; cases h
    | some z =>
      obtain ⟨tg, o', v⟩ := z
      rw [e1] at h
      dsimp only at h
      obtain ⟨p, rfl⟩ := vAug_eq e1
      cases e2 : vSub tg with
      | none => rw [e2] at h; cases h
      | some z =>
        obtain ⟨x, y⟩ := z
        rw [e2] at h
        dsimp only at h
        simp only [Bool.and_eq_true, Bool.not_eq_true', decide_eq_true_eq] at h
        obtain ⟨⟨⟨⟨rfl, h1⟩, h2⟩, h3⟩, h4⟩ := h
        obtain ⟨p2, rfl⟩ := vSub_eq e2
        obtain ⟨x, p3, rfl, n1, n2, n3, n4⟩ := ok.toXOk.nm h1
        exact s_augs (ps_augS (pe_var n1 n2 n3 n4) (sndE ix ok.toXOk h3).frz get_listX (sndE e ok.toXOk h4).frz (op_aug o) set_list (aug_store h2))
  | .exp e, st, h => by
    rw [chkS] at h
    cases e1 : vExp st with
    | none => rw [e1] at h; cases h
    | some v =>
      rw [e1] at h
      dsimp only at h
      obtain ⟨p, rfl⟩ := vExp_eq e1
      rw [Bool.and_eq_true, Bool.not_eq_true'] at h
      exact s_expr (sndE e ok.toXOk h.2) (noComp_sw h.1 _ _ _)
  | .app i e, st, h => by
    rw [chkS] at h
    cases e1 : vExp st with
    | none => rw [e1] at h; cases h
    | some v =>
      rw [e1] at h
      dsimp only at h
      obtain ⟨p, rfl⟩ := vExp_eq e1
      cases e2 : vApp v with
      | none => rw [e2] at h; cases h
      | some z =>
        obtain ⟨o, a⟩ := z
        rw [e2] at h
        dsimp only at h
        rw [Bool.and_eq_true, Bool.and_eq_true, Bool.not_eq_true'] at h
        obtain ⟨⟨h1, h2⟩, h3⟩ := h
        obtain ⟨p2, q, rfl, hl⟩ := vApp_eq e2
        obtain ⟨x, p3, rfl, n1, n2, n3, n4⟩ := ok.toXOk.nm h1
        exact s_app (ps_expr (pe_bm PySem.F.plainAttrs_list slot_list_append type_list_append mt_append (pe_var n1 n2 n3 n4) (pa_cons (sndE e ok.toXOk h3).frz pa_nil (star_cons h2 _ _)) rfl (by rw [star_cons h2]; rfl) hl (star_cons h2 _ _) rfl) rfl)
  | .ite t a b, st, h => by
    rw [chkS] at h
    cases e1 : vIfS st with
    | none => rw [e1] at h; cases h
    | some z =>
      obtain ⟨u, x, y⟩ := z
      rw [e1] at h
      dsimp only at h
      obtain ⟨p, rfl⟩ := vIfS_eq e1
      rw [Bool.and_eq_true, Bool.and_eq_true] at h
      exact s_if (sndT t ok.toXOk h.1.1).1 (sndSs ok a h.1.2) (sndSs ok b h.2)
  | .for t it b, st, h => by
    rw [chkS] at h
    cases e1 : vFor st with
    | none => rw [e1] at h; cases h
    | some z =>
      obtain ⟨tg, i, x⟩ := z
      rw [e1] at h
      dsimp only at h
      obtain ⟨p, rfl⟩ := vFor_eq e1
      rw [Bool.and_eq_true, Bool.and_eq_true, Bool.and_eq_true, Bool.not_eq_true'] at h
      exact s_for ok.own ok.calm (sndIt it ok.toXOk h.1.1.2) (sndTG ok.toXOk t h.1.1.1) (sndSs ok b h.2) (noSet_it h.1.2 _)
  | .whl t b, st, h => by
    rw [chkS] at h
    cases e1 : vWhl st with
    | none => rw [e1] at h; cases h
    | some z =>
      obtain ⟨u, x⟩ := z
      rw [e1] at h
      dsimp only at h
      obtain ⟨p, rfl⟩ := vWhl_eq e1
      rw [Bool.and_eq_true] at h
      exact s_while ok.own (sndT t ok.toXOk h.1).1 (sndSs ok b h.2)
  | .ret e, st, h => by
    rw [chkS] at h
    split at h
    · rename_i v e1
      obtain ⟨p, rfl⟩ := vRet_eq e1
      cases e with
      | var i =>
        obtain ⟨x, p3, rfl, n1, n2, n3, n4⟩ := ok.toXOk.nm (show nmB N sc i v = true from h)
        exact s_retV n1 n2 n3 n4
      | _ => exact s_ret (sndE _ ok.toXOk h)
    · cases h
  | .retN, st, h => by
    rw [chkS] at h
    split at h
    · rename_i e1
      obtain ⟨p, rfl⟩ := vRet_eq e1
      exact s_retN
    · cases h
  | .brk, st, h => by
    obtain ⟨p, rfl⟩ := vBrk_eq h
    exact s_brk
  | .cnt, st, h => by
    obtain ⟨p, rfl⟩ := vCnt_eq h
    exact s_cnt
  | .pas, st, h => by
    obtain ⟨p, rfl⟩ := vPas_eq h
    exact s_pass
theorem sndSs (ok : SOk T C N k X sc) : ∀ (ss : CSs) {st : List Stmt}, chkSs N T sc ss st = true → PSs X st (rdS X.K (wpSs T.G C ss))
  | .nil, st, h => by
    have : st = [] := List.isEmpty_iff.mp h
    subst this
    exact ss_nil
  | .cons s ss, st, h => by
    cases st with
    | nil => exact nomatch h
    | cons x xs =>
      rw [chkSs, Bool.and_eq_true] at h
      have := ss_cons (sndS ok s h.1) (sndSs ok ss h.2)
      exact this
end
end
end TL
end
section
set_option autoImplicit false
set_option maxHeartbeats 4000000
/-! TL16: a def of the text keeps the promise that its trees' run makes -/
namespace TL
open PySem PySem.Spec PyProof.Rows L2

/-! ### how arguments bind -/
def argsB (a : Arguments) (ps : List Str) : Bool := match a with
  | ⟨[], as, none, [], [], none, []⟩ => decide (as.map (·.arg) = ps)
  | _ => false
theorem argsB_eq {a : Arguments} {ps : List Str} (h : argsB a ps = true) : ∃ as, a = ⟨[], as, none, [], [], none, []⟩ ∧ as.map (·.arg) = ps := by
  unfold argsB at h
  split at h
  · exact ⟨_, rfl, of_decide_eq_true h⟩
  · cases h
theorem lookup_zip {α : Type} : ∀ {ps : List Str} {us : List α} {i : Nat}, ps.Nodup → us.length = ps.length → ∀ {x : Str}, ps[i]? = some x → (ps.zip us).lookup x = us[i]?
  | [], _, _, _, _, _, h => by simp at h
  | p :: ps, [], _, _, h, _, _ => by simp at h
  | p :: ps, u :: us, 0, nd, hl, x, h => by
    simp at h; subst h
    simp
  | p :: ps, u :: us, i + 1, nd, hl, x, h => by
    have hx : x ∈ ps := List.mem_of_getElem? (by simpa using h)
    have hne : x ≠ p := fun e => (List.nodup_cons.mp nd).1 (e ▸ hx)
    rw [List.zip_cons_cons, List.lookup_cons]
    rw [show (x == p) = false by simpa using hne]
    simpa using lookup_zip (List.nodup_cons.mp nd).2 (by simpa using hl) (by simpa using h)
theorem lookup_zipSome {α : Type} {ps : List Str} {us : List α} (nd : ps.Nodup) (hl : us.length = ps.length) {x : Str} (h : x ∈ ps) : ∃ u, (ps.zip us).lookup x = some u := by
  obtain ⟨i, hi, e⟩ := List.getElem_of_mem h
  refine ⟨us[i]'(by omega), ?_⟩
  rw [lookup_zip nd hl (List.getElem?_eq_some_iff.mpr ⟨hi, e⟩)]
  exact List.getElem?_eq_getElem _
theorem zip_map_lookup {α : Type} : ∀ {ps qs : List Str} {us : List α} {m : Str → Option α}, us.length = ps.length → (∀ (i : Nat) (x : Str), ps[i]? = some x → m x = us[i]?) → ps.filterMap (fun n => (m n).map (n, ·)) = ps.zip us
  | [], _, us, _, hl, _ => by simp
  | p :: ps, _, [], _, hl, _ => by simp at hl
  | p :: ps, qs, u :: us, m, hl, h => by
    have h0 : m p = some u := h 0 p rfl
    rw [List.filterMap_cons, h0, List.zip_cons_cons]
    dsimp only [Option.map_some]
    rw [zip_map_lookup (qs := qs) (by simpa using hl) fun i x e => h (i + 1) x (by simpa using e)]
theorem bind_all {name qual : Str} {as : List Arg} {body : List Stmt} {scope : Scope} {kV doc pm cdv ct : Value} {an : Option Addr} {us : List Value} (nd : (as.map (·.arg)).Nodup) (hl : us.length = (as.map (·.arg)).length) :
    bindArgs (PySem.W.fnOf name qual ⟨[], as, none, [], [], none, []⟩ body scope .none kV doc pm an cdv ct) ⟨us, []⟩ = pure ((as.map (·.arg)).zip us) := by
  have e1 : (List.filter (fun n => (List.lookup n ((as.map (·.arg)).zip us)).isNone) (as.map (·.arg))) = [] := by
    rw [List.filter_eq_nil_iff]
    intro x hx
    obtain ⟨u, hu⟩ := lookup_zipSome nd hl hx
    rw [hu]; exact fun z => nomatch z
  have e2 : (as.map (·.arg)).filterMap (fun n => (((as.map (·.arg)).zip us).lookup n).map (n, ·)) = (as.map (·.arg)).zip us :=
    zip_map_lookup (qs := []) hl fun i x h => lookup_zip nd hl h
  have hdr : ∀ k, List.drop k ((none : Option (Array Value)).getD #[]).toList = [] := fun k => List.drop_nil
  unfold bindArgs PySem.W.fnOf
  simp only [List.map_nil, List.nil_append, List.append_nil]
  refine (if_neg ?_).trans ((if_neg ?_).trans ?_)
  · rw [hl]; simp
  · simp only [hdr, List.length_nil, Nat.sub_zero, List.take_length, e1]; decide
  · simp only [hdr, List.length_nil, Nat.sub_zero, List.zip_nil_right]
    exact congrArg (fun l => (pure l : Sem (List (Str × Value)))) e2

/-! ### defs, programs -/
/-- a def: how many parameters, how many further names, is the first a list that is lent, the body -/
structure CDef where
  np : Nat
  nl : Nat
  pen : Bool
  body : CSs
abbrev Prog := List (String × CDef)
def outS (ρ : Slots) : List D := match (ρ[0]? : Option Sl) with
  | some (.bor ds) => ds
  | _ => []
def endP (Q : RV → List D → Prop) : WEnds := { nx := fun ρ => Q (.fz .none) (outS ρ), rt := fun r ρ => Q r (outS ρ), bk := fun _ => False, ct := fun _ => False }
def endN (Q : RV → List D → Prop) : WEnds := { nx := fun _ => Q (.fz .none) [], rt := fun r _ => Q r [], bk := fun _ => False, ct := fun _ => False }
def wpDef (G : String → Option D) (C : CallW) (d : CDef) (ds : List D) (Q : RV → List D → Prop) : Prop :=
  if d.pen = true then match ds with
    | .list pd :: rest => rest.length + 1 = d.np ∧ wpSs G C d.body (.bor pd :: rest.map .fz ++ List.replicate d.nl .un) (endP Q)
    | _ => False
  else ds.length = d.np ∧ wpSs G C d.body (ds.map .fz ++ List.replicate d.nl .un) (endN Q)
/-- the run of a program: at most so deep -/
def run (G : String → Option D) (tbl : Prog) : Nat → CallW
  | 0 => fun _ _ _ => False
  | n + 1 => fun f ds Q => match tbl.lookup f with
    | some d => wpDef G (run G tbl n) d ds Q
    | none => False
theorem run_len {G : String → Option D} {tbl : Prog} {n : Nat} {f : String} {d : CDef} {ds : List D} {Q : RV → List D → Prop} (h : tbl.lookup f = some d) (r : run G tbl n f ds Q) : ds.length = d.np := by
  cases n with
  | zero => exact r.elim
  | succ n =>
    have r : wpDef G (run G tbl n) d ds Q := by
      have : run G tbl (n + 1) f ds Q = (match tbl.lookup f with | some d => wpDef G (run G tbl n) d ds Q | none => False) := rfl
      rw [this, h] at r
      exact r
    unfold wpDef at r
    split at r
    · split at r
      · rw [List.length_cons]; exact r.1
      · exact r.elim
    · exact r.1

/-! ### the state at the entry -/
section
variable {K : PySem.W.Frag} {F F' H H' : Hp} {σ' : St} {ρ' : Slots}
theorem start_get {N : List Str} {vs : List V} {n i : Nat} (hl : N.length = vs.length + n) : L2.start N vs = vs.map some ++ List.replicate n none := by
  unfold L2.start
  rw [hl, Nat.add_sub_cancel_left]
theorem ent_slot {n : Nat} : ∀ {vs : List V} {ds : List D}, Rps K F vs ds → ∀ (i : Nat) (s : Sl) (o : Option V), (ds.map Sl.fz ++ List.replicate n .un)[i]? = some s → (vs.map some ++ List.replicate n none)[i]? = some o → SltR K F H s o
  | _, _, .nil, i, s, o, h1, h2 => by
    have : s = .un := by
      rw [List.map_nil, List.nil_append, List.getElem?_replicate] at h1
      split at h1 <;> cases h1
      rfl
    subst this
    exact trivial
  | _, _, .cons h r, 0, s, o, h1, h2 => by cases h1; cases h2; exact ⟨_, rfl, h⟩
  | _, _, .cons h r, i + 1, s, o, h1, h2 => ent_slot r i s o h1 h2
theorem ent_held {ds : List D} {n i : Nat} {s : Sl} (h : (ds.map Sl.fz ++ List.replicate n .un)[i]? = some s) : s.held = false := by
  rcases List.mem_append.mp (List.mem_of_getElem? h) with q | q
  · obtain ⟨d, _, rfl⟩ := List.mem_map.mp q; rfl
  · cases List.eq_of_mem_replicate q; rfl
theorem entN {N : List Str} {vs : List V} {ds : List D} {n : Nat} (hl : N.length = vs.length + n) (s : Same F H) (r : Rps K F vs ds) : SR K F H (L2.start N vs) (ds.map .fz ++ List.replicate n .un) ∧ ∀ a, ¬ Held (ds.map .fz ++ List.replicate n .un) (L2.start N vs) a := by
  have nh : ∀ a, ¬ Held (ds.map .fz ++ List.replicate n .un) (L2.start N vs) a := by
    rintro a ⟨i, ⟨es, h, _⟩ | ⟨es, h, _⟩⟩
    · exact nomatch ent_held h
    · exact nomatch ent_held h
  rw [start_get (i := 0) hl] at nh ⊢
  exact ⟨⟨by simp [r.length], s, fun i z o h1 h2 => ent_slot r i z o h1 h2, fun i j a h _ => absurd ⟨i, h⟩ (nh a), fun a h => absurd h (nh a)⟩, nh⟩
theorem entP {N : List Str} {vs : List V} {ds pd : List D} {n : Nat} {a : Addr} {ws : List V} (hl : N.length = vs.length + 1 + n) (s : Same F H) (hF : F a = none) (hH : H a = some (.lst ws)) (rw : Rps K F ws pd) (r : Rps K F vs ds) :
    SR K F H (L2.start N (.ref a :: vs)) (.bor pd :: ds.map .fz ++ List.replicate n .un) ∧ BorL (.bor pd :: ds.map .fz ++ List.replicate n .un) (L2.start N (.ref a :: vs)) 0 a ∧
      (∀ i b, ¬ OwnL (.bor pd :: ds.map .fz ++ List.replicate n .un) (L2.start N (.ref a :: vs)) i b) ∧ ∀ i b, BorL (.bor pd :: ds.map .fz ++ List.replicate n .un) (L2.start N (.ref a :: vs)) i b → i = 0 ∧ b = a := by
  have e : L2.start N (.ref a :: vs) = some (.ref a) :: (vs.map some ++ List.replicate n none) := by
    rw [start_get (i := 0) (n := n) (by rw [hl, List.length_cons])]; rfl
  rw [e]
  show SR K F H _ (.bor pd :: (ds.map .fz ++ List.replicate n .un)) ∧ _
  have b0 : BorL (.bor pd :: (ds.map .fz ++ List.replicate n .un)) (some (.ref a) :: (vs.map some ++ List.replicate n none)) 0 a := ⟨pd, rfl, rfl⟩
  have no : ∀ i b, ¬ OwnL (.bor pd :: (ds.map .fz ++ List.replicate n .un)) (some (.ref a) :: (vs.map some ++ List.replicate n none)) i b := by
    rintro i b ⟨es, h, _⟩
    cases i with
    | zero => cases h
    | succ i => exact nomatch ent_held (show (ds.map Sl.fz ++ List.replicate n .un)[i]? = some _ from h)
  have nb : ∀ i b, BorL (.bor pd :: (ds.map .fz ++ List.replicate n .un)) (some (.ref a) :: (vs.map some ++ List.replicate n none)) i b → i = 0 ∧ b = a := by
    rintro i b ⟨es, h, h2⟩
    cases i with
    | zero => cases h2; exact ⟨rfl, rfl⟩
    | succ i => exact nomatch ent_held (show (ds.map Sl.fz ++ List.replicate n .un)[i]? = some _ from h)
  refine ⟨⟨by simp [r.length], s, fun i z o h1 h2 => ?_, fun i j b h1 h2 => ?_, fun b hb => ?_⟩, b0, no, nb⟩
  · cases i with
    | zero => cases h1; cases h2; exact ⟨a, rfl, ws, hH, rw⟩
    | succ i => exact ent_slot r i z o h1 h2
  · rw [(nb i b (h1.resolve_left (no i b))).1, (nb j b (h2.resolve_left (no j b))).1]
  · obtain ⟨i, hb⟩ := hb
    rw [(nb i b (hb.resolve_left (no i b))).2]; exact hF
end
end TL
end
section
set_option autoImplicit false
set_option maxHeartbeats 4000000
/-! TL17: all defs keep their promises -/
namespace TL
open PySem PySem.Spec PyProof.Rows L2

section
variable {P : Program} {w : World} {K : PySem.W.Frag} {mg : Str → Option Value} {base : Heap}
/-- what of the text's top a program of trees asks -/
structure Top (K : PySem.W.Frag) (mg : Str → Option Value) (T : Tb) (tbl : Prog) : Prop where
  cons : ∀ x d, T.cons.lookup x = some d → ∃ v u, mg (Str.ofString x) = some u ∧ RelV v u ∧ Rp K (fun _ => none) v d
  blt : ∀ s ∈ bltNames, mg (Str.ofString s) = none
  fns : ∀ f pen, T.fns.lookup f = some pen → ∃ cd, tbl.lookup f = some cd ∧ cd.pen = pen
  defs : ∀ f cd, tbl.lookup f = some cd → ∃ (st : Stmt) (fa : Addr) (fd : FuncData) (N ps : List Str), Fun K (Str.ofString f) (Str.ofString f) st fa fd ∧ mg (Str.ofString f) = some (.ref fa) ∧ FnScope N ps (defScope st) ∧ argsB (defArgs st) ps = true ∧
    ps.length = cd.np ∧ N.length = cd.np + cd.nl ∧ chkSs N T (defScope st) cd.body (defBody st) = true
theorem Top.binds {T : Tb} {tbl : Prog} {x : Str} {st : Stmt} {fa : Addr} {fd : FuncData} {N ps : List Str} (F : Fun K x x st fa fd) (S : FnScope N ps (defScope st)) (h : argsB (defArgs st) ps = true) : L2.Binds K fd ps [] := by
  obtain ⟨as, e, rfl⟩ := argsB_eq h
  have nd : (as.map (·.arg)).Nodup := by rw [← S.pre]; exact S.nd.sublist (List.take_sublist _ _)
  exact F.binds fun kV doc pm an cdv ct us hl => by rw [e]; exact bind_all nd hl
/-- the promise of a def at a depth -/
def spD (K : PySem.W.Frag) (cd : CDef) (R : RunW) : Sp := if cd.pen = true then spP K cd.np R else spN K cd.np R
theorem spD_len {cd : CDef} {R : RunW} {vs : List V} {H : Hp} {Q : VK} {E : XK} (h : spD K cd R vs H Q E) : vs.length = cd.np := by
  unfold spD at h
  split at h <;> exact h.1
theorem spD_false {cd : CDef} {R : RunW} {vs : List V} {H : Hp} {Q : VK} {E : XK} (n : ∀ ds Qt, ¬ R ds Qt) (h : spD K cd R vs H Q E) : False := by
  unfold spD at h
  split at h
  · obtain ⟨_, F, a, ws, vs', pd, ds, Qt, _, _, _, _, _, _, r, _⟩ := h
    exact n _ _ r
  · obtain ⟨_, F, ds, Qt, _, _, r, _⟩ := h
    exact n _ _ r
/-- a def's body, run at its parameters -/
theorem body_ok {X : Cx} {C : CallW} {N ps : List Str} {k : Nat} {sc : Scope} {T : Tb} {cd : CDef} {body : List Stmt} {vs : List V} {H : Hp} {Q : VK} {E : XK} {R : RunW} (ok : SOk T C N k X sc) (hc : chkSs N T sc cd.body body = true) (hn : N.length = cd.np + cd.nl)
    (hR : ∀ ds Qt, R ds Qt → wpDef T.G C cd ds Qt) (h : spD X.K cd R vs H Q E) : ∃ t, PSs X body t ∧ t { nx := fun _ H' => Q .non H', rt := Q } (L2.start N vs) H := by
  refine ⟨_, sndSs ok cd.body hc, ?_⟩
  unfold spD at h
  split at h
  · rename_i hp
    obtain ⟨hl, F, a, ws, vs', pd, ds, Qt, rfl, s, hF, hH, rw, r, hr, kk⟩ := h
    have w := hR _ _ hr
    unfold wpDef at w
    rw [if_pos hp] at w
    have hl' : vs'.length + 1 = cd.np := hl
    obtain ⟨sr, b0, no, nb⟩ := entP (N := N) (n := cd.nl) (by rw [hn, ← hl']) s hF hH rw r
    refine ⟨F, _, _, sr, w.2, ⟨fun ρ' σ' F' H' q st s' => ?_, fun ρ' σ' F' H' q st s' => q.elim, fun ρ' σ' F' H' q st s' => q.elim, fun r ρ' v σ' F' H' q st s' rt => ?_⟩⟩
    all_goals
      have hb : BorL ρ' σ' 0 a := (st.bo 0 a).mpr b0
      obtain ⟨es, z1, z2⟩ := hb
      obtain ⟨b, e, lr⟩ := s'.slot 0 _ _ z1 z2
      cases e
      have eo : outS ρ' = es := by unfold outS; rw [z1]
      have kp : ∀ b o, H b = some o → b ≠ a → H' b = some o := fun b o h1 h2 => st.kp b o h1 fun ⟨i, hi⟩ => h2 (nb i b (hi.resolve_left (no i b))).2
      have nw : ∀ b, F' b ≠ none → F b ≠ none ∨ H b = none := fun b h1 => (st.nw b h1).elim .inl fun z => z.elim .inr fun ⟨i, z⟩ => absurd z (no i b)
    · exact kk _ _ _ _ _ q st.fr s'.sub kp nw st.dom (by rw [eo]; exact lr) .non
    · refine kk _ _ _ _ _ q st.fr s'.sub kp nw st.dom (by rw [eo]; exact lr) ?_
      cases r with
      | fz d => exact rt
      | own xs => obtain ⟨c, e, h1, h2, _, h4⟩ := rt; exact ⟨c, e, h1, h2, h4.resolve_right fun ⟨i, z⟩ => absurd z (no i c)⟩
  · rename_i hp
    obtain ⟨hl, F, ds, Qt, s, r, hr, kk⟩ := h
    have w := hR _ _ hr
    unfold wpDef at w
    rw [if_neg hp] at w
    obtain ⟨sr, nh⟩ := entN (N := N) (n := cd.nl) (by rw [hn, hl]) s r
    refine ⟨F, _, _, sr, w.2, ⟨fun ρ' σ' F' H' q st s' => ?_, fun ρ' σ' F' H' q st s' => q.elim, fun ρ' σ' F' H' q st s' => q.elim, fun r ρ' v σ' F' H' q st s' rt => ?_⟩⟩
    all_goals
      have kp : Same H H' := fun b o h1 => st.kp b o h1 (nh b)
      have nw : ∀ b, F' b ≠ none → F b ≠ none ∨ H b = none := fun b h1 => (st.nw b h1).elim .inl fun z => z.elim .inr fun z => absurd z.held (nh b)
    · exact kk _ _ _ _ _ q st.fr s'.sub kp nw .non
    · refine kk _ _ _ _ _ q st.fr s'.sub kp nw ?_
      cases r with
      | fz d => exact rt
      | own xs => obtain ⟨c, e, h1, h2, _, h4⟩ := rt; exact ⟨c, e, h1, h2, h4.resolve_right fun z => absurd z.held (nh c)⟩
theorem fns_ok {T : Tb} {tbl : Prog} (tp : Top K mg T tbl) : ∀ (n : Nat) (f : String) (cd : CDef), tbl.lookup f = some cd → ∃ (fa : Addr) (fd : FuncData) (ps : List Str), mg (Str.ofString f) = some (.ref fa) ∧ PySem.W.keepIn K (.ref fa) = true ∧ L2.Binds K fd ps [] ∧
    ps.length = cd.np ∧ ∀ (P : Program) (w : World) (base : Heap), SysD base → FnG P w K mg base n fa fd ps (spD K cd (run T.G tbl n f)) := by
  intro n
  induction n with
  | zero =>
    intro f cd hf
    obtain ⟨st, fa, fd, N, ps, F, hm, S, ha, hp, hn, hc⟩ := tp.defs f cd hf
    exact ⟨fa, fd, ps, hm, F.kp, Top.binds (T := T) (tbl := tbl) F S ha, hp, fun P w base sy => ⟨fun vs H Q E h => (spD_len h).trans hp.symm, fun A outer s H args us vs Q E hr hg e0 hb r h => (spD_false (fun ds Qt z => z) h).elim⟩⟩
  | succ n ih =>
    intro f cd hf
    obtain ⟨st, fa, fd, N, ps, F, hm, S, ha, hp, hn, hc⟩ := tp.defs f cd hf
    refine ⟨fa, fd, ps, hm, F.kp, Top.binds (T := T) (tbl := tbl) F S ha, hp, fun P w base sy => ⟨fun vs H Q E h => (spD_len h).trans hp.symm, fun A outer s H args us vs Q E hr hg e0 hb r h => ?_⟩⟩
    obtain ⟨oc, od, kV, doc, pm, an, cdv, ct, osl, rfl, lk, hcd⟩ := F.ex
    have hl : vs.length = ps.length := (spD_len h).trans hp.symm
    have KX : K.In s.heap := e0.mod.kin.keeps fun b o e => (e0.bs b o e).1
    have lim : s.heap.NoLimit := e0.mod.nolimit.keeps fun b o e => (e0.bs b o e).1
    have hkind : ∀ y ∈ ps.zip us, (defScope st).names.lookup y.1 = some .local ∨ ((defScope st).names.lookup y.1 = some .cell ∧ ((cellsFrom (s.heap.objs.size + 1) (defScope st).names []).lookup y.1).isSome = true) := fun ⟨n, v⟩ hy => by
      rcases S.par n (List.of_mem_zip hy).1 with q | q
      · exact .inl q
      · exact .inr ⟨q, PySem.W.cellsFrom_some _ _ _ (.inl q)⟩
    refine codeAny_call_function hr.depth (KX _ _ lk) rfl S.co S.gen rfl (PySem.W.codeRec_of KX hcd) (hb _ _ _ _ ?_)
    refine wpAny_newFunctionEnv_cells S.kind hkind fun env he s1 x => ?_
    subst he
    refine ⟨lim.keeps x.toInCall.keep, codeAny_func ?_⟩
    have sok : SOk T (run T.G tbl n) N n (cxOf CX0 P w K mg base N (Str.ofString f) (defScope st) fa cdv A outer s H E).nox (defScope st) :=
      { eN := rfl, calm := rfl, nd := S.nd, room := hr.deeper _, gd := hg, sy := sy, s1 := fun x kd h _ => h, s2 := fun x h => .inl h, fn := fun _ _ => rfl, cons := tp.cons, blt := tp.blt,
        fns := fun g pen hgp => by
          obtain ⟨cg, h1, rfl⟩ := tp.fns g pen hgp
          obtain ⟨ga, gd, qs, g1, g2, g3, g4, g5⟩ := ih g cg h1
          refine ⟨ga, gd, qs, cg.np, g1, g2, g3, ?_, fun ds Qt q => run_len h1 q⟩
          have g6 := g5 P w base sy
          unfold spD at g6
          exact g6
        es := rfl, kd := S.kind, xf := rfl }
    obtain ⟨t, ht, hq⟩ := body_ok (vs := vs) (H := H) (Q := Q) (E := E) (ps := ps) sok hc hn (fun ds Qt q => by
      have : run T.G tbl (n + 1) f ds Qt = (match tbl.lookup f with | some d => wpDef T.G (run T.G tbl n) d ds Qt | none => False) := rfl
      rw [this, hf] at q
      exact q) h
    have I : Inv (cxOf CX0 P w K mg base N (Str.ofString f) (defScope st) fa cdv A outer s H E) [] (L2.start N vs) H s1 := inv_start S hr.hd e0 hl r x
    refine wpAny_mono (ht.nox.run [] s1 (L2.start N vs) H _ I hq) (fun fl s' hs => ?_) fun e s' hs => hs
    have fin : ∀ {σ' : L2.St} {H' : Hp} {v : V} {u : Value}, Inv (cxOf CX0 P w K mg base N (Str.ofString f) (defScope st) fa cdv A outer s H E) [] σ' H' s' → RelV v u → Q v H' → L2.CE outer P w H s Q u s' :=
      fun {σ' H' v u} J rv q => ⟨v, H', J.os, J.bare, J.base, J.hok, rv, q⟩
    cases fl with
    | ret u =>
      obtain ⟨v, σ', H', J, rv, q⟩ := hs
      exact fin J rv q
    | next =>
      obtain ⟨σ', H', J, q⟩ := hs
      exact fin (v := V.non) (u := Value.none) J rfl q
    | brk =>
      obtain ⟨_, _, _, q⟩ := hs
      exact False.elim q
    | cont =>
      obtain ⟨_, _, _, q⟩ := hs
      exact False.elim q
end
end TL
end
section
set_option autoImplicit false
set_option maxHeartbeats 4000000
/-! TL18: the end: a law's def is called by the claim's caller -/
namespace TL
open PySem PySem.Spec PyProof.Rows L2

/-- what the caller wants of the law's call -/
abbrev WantB (s₁ : Shared) : Result → Shared → Prop := fun r s' => r = .ok (.ret (.bool true)) ∧ OldK s₁.heap s'.heap ∧ s'.os = s₁.os ∧ AllBare s'.gens
section
variable {P : Program} {w : World} {K : PySem.W.Frag} {mg mb : Str → Option Value} {k : Nat} {fa a : Addr} {fd : FuncData} {x : Str} {s₁ : Shared} {vs : List Value} {ns : List Int} {H : Hp}
/-- an abstract heap ahead of the call: the script at most, and that frozen -/
structure Pre (P : Program) (w : World) (K : PySem.W.Frag) (s₁ : Shared) (vs : List Value) (a : Addr) (H : Hp) : Prop where
  one : ∀ b u, H b = some u → b = a ∧ ∃ o xs, u = .frz o (.lst xs)
  ok : HOk P w H s₁.heap
  out : ∀ b u, H b = some u → K.lookup b = none
  at_ : s₁.heap.get? a = some { cls := .type "list", data := .seq vs.toArray }
theorem Pre.hid (p : Pre P w K s₁ vs a H) {b : Addr} {o : Obj} (e : s₁.heap.get? b = some o) (n : b = a → False) : (hidT s₁.heap H).get? b = some o := by
  refine hidT_get e ?_
  match h : H b with
  | none => rfl
  | some u => exact (n (p.one b u h).1).elim
theorem Pre.nsp (p : Pre P w K s₁ vs a H) {b : Addr} {m : Str → Option Value} (h : s₁.heap.Ns b m) : (hidT s₁.heap H).Ns b m := by
  obtain ⟨o, es, ep, e, d, r⟩ := h
  refine ⟨o, es, ep, p.hid e fun z => ?_, d, r⟩
  rw [z, p.at_] at e
  cases e
  cases d
theorem Pre.kin (p : Pre P w K s₁ vs a H) (KX : K.In s₁.heap) : K.In (hidT s₁.heap H) := by
  intro b o e
  refine hidT_get (KX b o e) ?_
  match h : H b with
  | none => rfl
  | some u => rw [p.out b u h] at e; cases e
theorem Pre.go (p : Pre P w K s₁ vs a H) (KX : K.In s₁.heap) (hns : s₁.heap.Ns mainGlobals mg) (hb : s₁.heap.Ns builtinsNs mb) (hbb : ∀ x : Str, x ≠ "__name__" → mb x = bootBuiltins x) (hlim : s₁.heap.NoLimit) (hsy : SysD s₁.heap) (hg : s₁.gens = #[]) (hr : Room k callerA) {sp : Sp}
    (F : ∀ base : Heap, K.In base → base.Ns mainGlobals mg → SysD base → FnG P w K mg base k fa fd [x] sp) (hbind : BindsTo s₁ fd ⟨[.ref a], []⟩ [(x, .ref a)]) (hsp : sp [.ref a] H (fun v _ => v = .bl true) E0) :
    codeAny (model P w) callerA (.call (.ref fa) ⟨[.ref a], []⟩) (WantB s₁) s₁ := by
  have lim : (hidT s₁.heap H).NoLimit := by
    obtain ⟨mc, l1, l2⟩ := hlim
    exact ⟨mc, p.nsp l1, l2⟩
  have md : Mod K mg (hidT s₁.heap H) := { kin := p.kin KX, glob := p.nsp hns, blt := ⟨mb, p.nsp hb, hbb⟩, nolimit := lim }
  have ev : Env0 P w K mg (hidT s₁.heap H) callerA [] s₁ H :=
    { frames := rfl, mod := md, bs := fun b o => of_hidT, bsz := Nat.le_of_eq (hidT_size _ _), funs := trivial, frf := fun b h => (List.not_mem_nil h).elim, hok := p.ok, bare := .of_eq hg }
  have rn := (F _ (p.kin KX) (p.nsp hns) (hsy.elim fun m h => ⟨m, p.nsp h⟩)).run callerA [] s₁ H ⟨[.ref a], []⟩ [.ref a] [.ref a] _ _ hr rfl ev hbind (.cons rfl .nil) hsp
  refine codeAny_mono rn ?_
  intro r s' h
  match r, h with
  | .error e, h => exact (show False from h).elim
  | .ok fl, h =>
    match fl, h with
    | .ret u, ⟨v, H', e1, e2, un, hk, rv, (q : v = .bl true)⟩ =>
      subst q
      have e3 : u = Value.bool true := rv
      subst e3
      refine ⟨rfl, OldK.of_keep ?_, e1, e2⟩
      intro b o e
      match z : H b with
      | none => exact un.keep b o e z List.not_mem_nil List.not_mem_nil
      | some u =>
        obtain ⟨_, ob, xs, rfl⟩ := p.one b u z
        have g1 := (p.ok b _ z).1
        have g2 := (hk b _ (un.frzs b ob _ z)).1
        rw [e] at g1
        cases g1
        exact g2
    | .next, h => exact h.elim
    | .brk, h => exact h.elim
    | .cont, h => exact h.elim
theorem head_ok (KX : K.In s₁.heap) (hns : s₁.heap.Ns mainGlobals mg) (hb : s₁.heap.Ns builtinsNs mb) (hbb : ∀ x : Str, x ≠ "__name__" → mb x = bootBuiltins x) (hlim : s₁.heap.NoLimit) (hsy : SysD s₁.heap) (hg : s₁.gens = #[])
    (ha : s₁.heap.get? a = some { cls := .type "list", data := .seq vs.toArray }) (hi : IntsAre vs ns) (hl : ns.length ≤ sizeLine) (hr : Room k callerA) {sp : Sp}
    (F : ∀ base : Heap, K.In base → base.Ns mainGlobals mg → SysD base → FnG P w K mg base k fa fd [x] sp) (hbind : BindsTo s₁ fd ⟨[.ref a], []⟩ [(x, .ref a)])
    (hsp : ∀ F H : Hp, Same F H → Rp K F (.ref a) (.list (ns.map .int)) → sp [.ref a] H (fun v _ => v = .bl true) E0) : codeAny (model P w) callerA (.call (.ref fa) ⟨[.ref a], []⟩) (WantB s₁) s₁ := by
  have rv := vals_ints hi
  have ln := hi.length
  match hk : K.lookup a with
  | some o =>
    have e := (KX a o hk).symm.trans ha
    cases e
    have p : Pre P w K s₁ vs a (fun _ => none) := by
      refine ⟨?_, ?_, ?_, ha⟩ <;> intro b u z <;> exact nomatch z
    refine p.go KX hns hb hbb hlim hsy hg hr F hbind (hsp (fun _ => none) _ (fun _ _ h => h) (.lst (.inr ⟨vs.toArray, _, hk, ?_, ?_⟩) (rps_ints ns)))
    · rw [List.size_toArray, ln]; exact hl
    · exact rv
  | none =>
    have p : Pre P w K s₁ vs a (upd (fun _ => none) a (.frz { cls := .type "list", data := .seq vs.toArray } (.lst (ns.map V.int)))) := by
      have only : ∀ b u, upd (fun _ => none) a (HO.frz { cls := .type "list", data := .seq vs.toArray } (.lst (ns.map V.int))) b = some u → b = a ∧ u = .frz { cls := .type "list", data := .seq vs.toArray } (.lst (ns.map V.int)) := fun b u z => by
        by_cases hb : b = a
        · rw [hb, upd_same] at z; exact ⟨hb, (Option.some.inj z).symm⟩
        · rw [upd_ne hb] at z; cases z
      refine ⟨fun b u z => ⟨(only b u z).1, _, _, (only b u z).2⟩, fun b u z => ?_, fun b u z => by rw [(only b u z).1]; exact hk, ha⟩
      obtain ⟨rfl, rfl⟩ := only b u z
      exact ⟨ha, by rw [List.length_map]; exact hl, vs, _, rv, ha⟩
    exact p.go KX hns hb hbb hlim hsy hg hr F hbind (hsp _ _ (fun _ _ h => h) (.lst (.inl (.inr ⟨_, upd_same⟩)) (rps_ints ns)))
end
/-- THE END: the goal that k_head leaves, from the program's trees -/
theorem walk_end {l : PySem.W.OpenLaw} {n k : Nat} {q : Program} {loose : List Str} {XP : (Str → Option Value) → Heap → Prop} {YP : World → Heap → Prop} {d : DefRec} {K : Params → PySem.W.Frag} {T : Tb} {tbl : Prog} {f : String} {cd : CDef}
    (hn : l.most = some n) (hn2 : n ≤ sizeLine) (hdf : d.params.defaults = []) (hr : Room k callerA) (hY : ∀ (w : World) (h : Heap), YP w h → (K w.params).In h)
    (hf : d.name = Str.ofString f) (hcd : tbl.lookup f = some cd) (hp : cd.pen = false) (h1 : cd.np = 1) (himp : importsNone q = true)
    (top : ∀ (w : World) (mg : Str → Option Value) (h : Heap), (K w.params).In h → h.Ns mainGlobals mg → Top (K w.params) mg T tbl)
    (law : ∀ ns : List Int, ns.length ≤ n → (∀ z ∈ ns, Builtin.Int.intBits z ≤ 1048576) → run T.G tbl k f [.list (ns.map .int)] fun r _ => r = .fz (.bool true)) :
    PySem.W.WalkO q loose XP YP l.row.toRowW d [] (fun f vs => PySem.call f vs) := by
  refine Att.attach_callB hn hdf fun w s₀ s₁ mg mb fa o pm cd' doc a vs ns G Y ho hd hcd' hmg hobj hints hlen hbits hg => ?_
  have KX := hY w _ Y
  have tp := top w mg _ KX G.T.g
  obtain ⟨fa', fd, ps, hm, kp, hb, hl, hF⟩ := fns_ok tp k f cd hcd
  rw [hf] at hmg
  have efa : fa = fa' := by
    have := hmg.symm.trans hm
    cases this; rfl
  subst efa
  obtain ⟨x, rfl⟩ : ∃ x, ps = [x] := by
    rw [h1] at hl
    exact List.length_eq_one_iff.mp hl
  refine head_ok (sp := spD (K w.params) cd (run T.G tbl k f)) (fd := fd) (x := x) KX G.T.g G.T.b G.T.builtins G.T.nolimit ((G.T.seer himp).mods.elim fun m h => ⟨m, h.1⟩) hg hobj hints (Nat.le_trans hlen hn2) hr (fun base k1 k2 k3 => hF _ _ _ k3) (hb s₁ [.ref a] KX rfl) fun F H sm rp => ?_
  · unfold spD
    rw [if_neg (by rw [hp]; decide)]
    refine ⟨by rw [h1]; rfl, F, _, _, sm, .cons rp .nil, law ns hlen hbits, fun r out v F' H' q _ _ _ _ rc => ?_⟩
    subst q
    cases rc; rfl
end TL
end
section
set_option autoImplicit false
set_option maxHeartbeats 4000000
/-! TL19: a program's rows: the look at the text, and what of the top is asked -/
namespace TL
open PySem PySem.Spec PyProof.Rows L2

structure Row where
  f : String
  cd : CDef
  st : Stmt
  N : List Str
  ps : List Str
def chkRow (T : Tb) (r : Row) : Bool :=
  C8.scC r.N r.ps (defScope r.st) && argsB (defArgs r.st) r.ps && decide (r.ps.length = r.cd.np) && decide (r.N.length = r.cd.np + r.cd.nl) && chkSs r.N T (defScope r.st) r.cd.body (defBody r.st)
def tblOf (rs : List Row) : Prog := rs.map fun r => (r.f, r.cd)
def TbOf (rs : List Row) (cons : List (String × D)) : Tb := ⟨rs.map fun r => (r.f, r.cd.pen), cons⟩
section
variable {K : PySem.W.Frag} {mg : Str → Option Value} {h : Heap}
/-- a def of the top, by the written part -/
structure FnK (K : PySem.W.Frag) (f : Str) (st : Stmt) : Prop where
  ex : ∃ (fa : Addr) (fd : FuncData), PySem.W.nsIn K mainGlobals f = some (some (.ref fa)) ∧ Fun K f f st fa fd
theorem fnk_mk {f : Str} {st : Stmt} {fa : Addr} {oc : Value} {od an : Option Addr} {osl : Array (Option Value)} {kV doc pm cdv ct : Value} (a : PySem.W.nsIn K mainGlobals f = some (some (.ref fa)))
    (l : K.lookup fa = some ⟨oc, od, .func (PySem.W.fnOf f f (defArgs st) (defBody st) (defScope st) .none kV doc pm an cdv ct), osl⟩) (c : PySem.W.codeIn K cdv f = true) (k : PySem.W.keepIn K (.ref fa) = true) : FnK K f st :=
  ⟨_, _, a, fun_mk l c k⟩
def FnsK (K : PySem.W.Frag) : List Row → Prop
  | [] => True
  | r :: rs => FnK K (Str.ofString r.f) r.st ∧ FnsK K rs
theorem FnsK.get : ∀ {rs : List Row}, FnsK K rs → ∀ r ∈ rs, FnK K (Str.ofString r.f) r.st
  | _ :: _, ⟨a, b⟩, r, h => by
    rcases List.mem_cons.mp h with e | e
    · rw [e]; exact a
    · exact FnsK.get b r e
/-- names that the module has not -/
def NonK (K : PySem.W.Frag) : List String → Prop
  | [] => True
  | s :: ss => PySem.W.nsIn K mainGlobals (Str.ofString s) = some none ∧ NonK K ss
theorem NonK.get : ∀ {ss : List String}, NonK K ss → ∀ s ∈ ss, PySem.W.nsIn K mainGlobals (Str.ofString s) = some none
  | _ :: _, ⟨a, b⟩, r, h => by
    rcases List.mem_cons.mp h with e | e
    · rw [e]; exact a
    · exact NonK.get b r e
mutual
/-- a constant's tree in the written part -/
inductive KV (K : PySem.W.Frag) : Value → D → Prop
  | non : KV K .none .none
  | bl (b : Bool) : KV K (.bool b) (.bool b)
  | int (i : Int) (t : Nat) : KV K (.int i t) (.int i)
  | str (x : Str) (t : Nat) : KV K (.str x t) (.str x)
  | tup {a : Addr} {o : Obj} {its : Array Value} {n : Nat} {ds : List D} : K.lookup a = some o → o.cls = .type "tuple" → o.data = .seq its n → its.size ≤ sizeLine → KVs K its.toList ds → KV K (.ref a) (.tuple ds)
  | lst {a : Addr} {its : Array Value} {n : Nat} {ds : List D} : K.lookup a = some { cls := .type "list", data := .seq its n } → its.size ≤ sizeLine → KVs K its.toList ds → KV K (.ref a) (.list ds)
inductive KVs (K : PySem.W.Frag) : List Value → List D → Prop
  | nil : KVs K [] []
  | cons {u : Value} {us : List Value} {d : D} {ds : List D} : KV K u d → KVs K us ds → KVs K (u :: us) (d :: ds)
end
mutual
theorem KV.rp : ∀ {u : Value} {d : D}, KV K u d → ∃ v, RelV v u ∧ Rp K (fun _ => none) v d
  | _, _, .non => ⟨.non, rfl, .non⟩
  | _, _, .bl b => ⟨.bl b, rfl, .bl b⟩
  | _, _, .int i t => ⟨.int i, ⟨t, rfl⟩, .int i⟩
  | _, _, .str x t => ⟨.str x, ⟨t, rfl⟩, .str x⟩
  | _, _, .tup (a := a) h c e z k => let ⟨vs, r1, r2⟩ := KVs.rp k; ⟨.ref a, rfl, .tup (.inr ⟨_, _, _, h, c, e, z, r1⟩) r2⟩
  | _, _, .lst (a := a) h z k => let ⟨vs, r1, r2⟩ := KVs.rp k; ⟨.ref a, rfl, .lst (.inr ⟨_, _, h, z, r1⟩) r2⟩
theorem KVs.rp : ∀ {us : List Value} {ds : List D}, KVs K us ds → ∃ vs, Vals vs us ∧ Rps K (fun _ => none) vs ds
  | _, _, .nil => ⟨[], .nil, .nil⟩
  | _, _, .cons h k => let ⟨v, r1, r2⟩ := KV.rp h; let ⟨vs, r3, r4⟩ := KVs.rp k; ⟨v :: vs, .cons r1 r3, .cons r2 r4⟩
end
theorem consk_ref {f : Str} {a : Addr} {d : D} (h : PySem.W.nsIn K mainGlobals f = some (some (.ref a))) (k : KV K (.ref a) d) : ∃ u, PySem.W.nsIn K mainGlobals f = some (some u) ∧ KV K u d := ⟨_, h, k⟩
theorem consk_int {f : Str} {i : Int} {t : Nat} (h : PySem.W.nsIn K mainGlobals f = some (some (.int i t))) : ∃ u, PySem.W.nsIn K mainGlobals f = some (some u) ∧ KV K u (.int i) := ⟨_, h, .int i t⟩
theorem consk_str {f : Str} {i : Str} {t : Nat} (h : PySem.W.nsIn K mainGlobals f = some (some (.str i t))) : ∃ u, PySem.W.nsIn K mainGlobals f = some (some u) ∧ KV K u (.str i) := ⟨_, h, .str i t⟩
def ConsK (K : PySem.W.Frag) : List (String × D) → Prop
  | [] => True
  | c :: cs => (∃ u, PySem.W.nsIn K mainGlobals (Str.ofString c.1) = some (some u) ∧ KV K u c.2) ∧ ConsK K cs
theorem ConsK.get : ∀ {cs : List (String × D)}, ConsK K cs → ∀ x d, cs.lookup x = some d → ∃ u, PySem.W.nsIn K mainGlobals (Str.ofString x) = some (some u) ∧ KV K u d
  | c :: cs, ⟨a, b⟩, x, d, h => by
    rw [List.lookup_cons] at h
    cases e : x == c.1 with
    | true =>
      rw [e] at h
      cases h
      rw [eq_of_beq e]
      exact a
    | false => rw [e] at h; exact ConsK.get b x d h
theorem lookup_map {α β : Type} {g : α → β} : ∀ {rs : List (String × α)} {x : String}, (rs.map fun r => (r.1, g r.2)).lookup x = (rs.lookup x).map g
  | [], _ => rfl
  | r :: rs, x => by
    rw [List.map_cons, List.lookup_cons, List.lookup_cons]
    cases x == r.1
    · exact lookup_map
    · rfl
theorem lookup_row {rs : List Row} {f : String} {cd : CDef} (h : (tblOf rs).lookup f = some cd) : ∃ r ∈ rs, r.f = f ∧ r.cd = cd := by
  induction rs with
  | nil => exact nomatch h
  | cons r rs ih =>
    unfold tblOf at h
    rw [List.map_cons, List.lookup_cons] at h
    cases e : f == r.f with
    | true =>
      rw [e] at h
      exact ⟨r, List.mem_cons_self, (eq_of_beq e).symm, Option.some.inj h⟩
    | false =>
      rw [e] at h
      obtain ⟨q, hq, h2⟩ := ih h
      exact ⟨q, List.mem_cons_of_mem _ hq, h2⟩
theorem fns_row {rs : List Row} {f : String} {pen : Bool} (h : (TbOf rs []).fns.lookup f = some pen) : ∃ cd, (tblOf rs).lookup f = some cd ∧ cd.pen = pen := by
  have e : (TbOf rs []).fns = (tblOf rs).map fun r => (r.1, r.2.pen) := by unfold TbOf tblOf; rw [List.map_map]; rfl
  rw [e, lookup_map (g := CDef.pen)] at h
  obtain ⟨cd, h1, h2⟩ := Option.map_eq_some_iff.mp h
  exact ⟨cd, h1, h2⟩
theorem top_of {rs : List Row} {cons : List (String × D)} (X : K.In h) (G : h.Ns mainGlobals mg) (hc : (rs.all fun r => chkRow (TbOf rs cons) r) = true) (hf : FnsK K rs) (hn : NonK K bltNames)
    (hk : ConsK K cons) : Top K mg (TbOf rs cons) (tblOf rs) where
  cons x d e := by
    obtain ⟨u, h1, h2⟩ := hk.get x d e
    obtain ⟨v, h3, h4⟩ := h2.rp
    exact ⟨v, u, PySem.W.mg_of X G h1, h3, h4⟩
  blt s hs := PySem.W.mg_none_of X G (hn.get s hs)
  fns f pen h := fns_row h
  defs f cd h := by
    obtain ⟨r, hr, rfl, rfl⟩ := lookup_row h
    obtain ⟨fa, fd, a, F⟩ := (hf.get r hr).ex
    have c := List.all_eq_true.mp hc r hr
    unfold chkRow at c
    rw [Bool.and_eq_true, Bool.and_eq_true, Bool.and_eq_true, Bool.and_eq_true, decide_eq_true_eq, decide_eq_true_eq] at c
    exact ⟨r.st, fa, fd, r.N, r.ps, F, PySem.W.mg_of X G a, C8.fnScope_by c.1.1.1.1, c.1.1.1.2, c.1.1.2, c.1.2, c.2⟩
end
end TL
end
section
set_option autoImplicit false
set_option maxHeartbeats 4000000
/-! TL20: the runs of trees: rules for loops, small facts -/
namespace TL
open PySem

theorem run_def {G : String → Option D} {tbl : Prog} {n : Nat} {f : String} {ds : List D} {Q : RV → List D → Prop} (d : CDef) (h : tbl.lookup f = some d) : run G tbl (n + 1) f ds Q = wpDef G (run G tbl n) d ds Q := by
  show (match tbl.lookup f with | some d => wpDef G (run G tbl n) d ds Q | none => False) = _
  rw [h]
theorem ent_n {G : String → Option D} {C : CallW} {np nl : Nat} {b : CSs} {ds : List D} {Q : RV → List D → Prop} (h : ds.length = np) : wpDef G C ⟨np, nl, false, b⟩ ds Q = wpSs G C b (ds.map .fz ++ List.replicate nl .un) (endN Q) := by
  unfold wpDef
  rw [if_neg (show ¬ false = true from Bool.false_ne_true)]
  exact propext (and_iff_right h)
theorem ent_p {G : String → Option D} {C : CallW} {np nl : Nat} {b : CSs} {pd ds : List D} {Q : RV → List D → Prop} (h : ds.length + 1 = np) : wpDef G C ⟨np, nl, true, b⟩ (.list pd :: ds) Q = wpSs G C b (.bor pd :: ds.map .fz ++ List.replicate nl .un) (endP Q) := by
  unfold wpDef
  rw [if_pos (show true = true from rfl)]
  exact propext (and_iff_right h)
theorem for_inv {t : TG} {body : Slots → WEnds → Prop} {ds : List D} {ρ : Slots} {e1 : Slots → Prop} {e2 : RV → Slots → Prop} {e3 e4 : Slots → Prop} (P : Nat → Slots → Prop) (h0 : P 0 ρ)
    (step : ∀ (i : Nat) (d : D) (ρ : Slots) (n1 n4 : Slots → Prop), ds[i]? = some d → P i ρ → (∀ ρ', P (i + 1) ρ' → n1 ρ') → (∀ ρ', P (i + 1) ρ' → n4 ρ') → wpTG t (.fz d) ρ fun ρ1 => body ρ1 ⟨n1, e2, e1, n4⟩)
    (hend : ∀ ρ, P ds.length ρ → e1 ρ) : forGo t body ds ρ ⟨e1, e2, e3, e4⟩ := by
  have key : ∀ (m i : Nat) (ρ : Slots), i + m = ds.length → P i ρ → forGo t body (ds.drop i) ρ ⟨e1, e2, e3, e4⟩ := by
    intro m
    induction m with
    | zero =>
      intro i ρ e h
      rw [show i = ds.length by omega, List.drop_length]
      exact hend ρ (by rwa [show i = ds.length by omega] at h)
    | succ m ih =>
      intro i ρ e h
      rw [List.drop_eq_getElem_cons (by omega)]
      exact step i _ ρ _ _ (List.getElem?_eq_getElem (by omega)) h (fun ρ' h' => ih (i + 1) ρ' (by omega) h') (fun ρ' h' => ih (i + 1) ρ' (by omega) h')
  exact key ds.length 0 ρ (by omega) h0
theorem wh_inv {test : Slots → (Bool → Slots → Prop) → Prop} {body : Slots → WEnds → Prop} {ρ : Slots} {e1 : Slots → Prop} {e2 : RV → Slots → Prop} {e3 e4 : Slots → Prop} (P : Nat → Slots → Prop) {m : Nat} (h0 : P m ρ)
    (step : ∀ (m : Nat) (ρ : Slots) (K : Bool → Slots → Prop), P m ρ → (∀ ρ1, (∀ n1 n4 : Slots → Prop, (∀ m' ρ', m' < m → P m' ρ' → n1 ρ') → (∀ m' ρ', m' < m → P m' ρ' → n4 ρ') → body ρ1 ⟨n1, e2, e1, n4⟩) → K true ρ1) → (∀ ρ1, e1 ρ1 → K false ρ1) → test ρ K) : ∃ n, whGo test body n ρ ⟨e1, e2, e3, e4⟩ := by
  have key : ∀ (M m : Nat) (ρ : Slots), m < M → P m ρ → whGo test body M ρ ⟨e1, e2, e3, e4⟩ := by
    intro M
    induction M with
    | zero => intro m ρ h; omega
    | succ M ih =>
      intro m ρ h hp
      refine step m ρ _ hp (fun ρ1 hb => ?_) (fun ρ1 h1 => ?_)
      · rw [if_pos rfl]
        exact hb _ _ (fun m' ρ' h1 h2 => ih m' ρ' (by omega) h2) (fun m' ρ' h1 h2 => ih m' ρ' (by omega) h2)
      · rw [if_neg (by decide)]
        exact h1
  exact ⟨m + 1, key (m + 1) m ρ (by omega) h0⟩
theorem lc_inv {own : List Nat} {t : TG} {test : Slots → (Bool → Slots → Prop) → Prop} {elt : WE} {ds : List D} {ρ : Slots} {k : List D → Slots → Prop} (P : Nat → List D → Slots → Prop) (h0 : P 0 [] ρ)
    (step : ∀ (i : Nat) (d : D) (acc : List D) (ρ : Slots) (K : List D → Slots → Prop), ds[i]? = some d → P i acc ρ → (∀ acc' ρ', P (i + 1) acc' ρ' → K acc' ρ') →
      wpTG t (.fz d) (wipeS ρ own) fun ρ1 => test ρ1 fun b ρ2 => if b = true then elt ρ2 fun r ρ3 => acc.length < sizeLine ∧ K (acc ++ [r.d]) ρ3 else K acc ρ2)
    (hend : ∀ acc ρ, P ds.length acc ρ → k acc ρ) : lcGo own t test elt ds [] ρ k := by
  have key : ∀ (m i : Nat) (acc : List D) (ρ : Slots), i + m = ds.length → P i acc ρ → lcGo own t test elt (ds.drop i) acc ρ k := by
    intro m
    induction m with
    | zero =>
      intro i acc ρ e h
      rw [show i = ds.length by omega, List.drop_length]
      exact hend acc ρ (by rwa [show i = ds.length by omega] at h)
    | succ m ih =>
      intro i acc ρ e h
      rw [List.drop_eq_getElem_cons (by omega)]
      exact step i _ acc ρ _ (List.getElem?_eq_getElem (by omega)) h fun acc' ρ' h' => ih (i + 1) acc' ρ' (by omega) h'
  exact key ds.length 0 [] ρ (by omega) h0
theorem lc_from {own : List Nat} {t : TG} {test : Slots → (Bool → Slots → Prop) → Prop} {elt : WE} {ds acc0 : List D} {ρ : Slots} {k : List D → Slots → Prop} (P : Nat → List D → Slots → Prop) (h0 : P 0 acc0 ρ)
    (step : ∀ (i : Nat) (d : D) (acc : List D) (ρ : Slots) (K : List D → Slots → Prop), ds[i]? = some d → P i acc ρ → (∀ acc' ρ', P (i + 1) acc' ρ' → K acc' ρ') →
      wpTG t (.fz d) (wipeS ρ own) fun ρ1 => test ρ1 fun b ρ2 => if b = true then elt ρ2 fun r ρ3 => acc.length < sizeLine ∧ K (acc ++ [r.d]) ρ3 else K acc ρ2)
    (hend : ∀ acc ρ, P ds.length acc ρ → k acc ρ) : lcGo own t test elt ds acc0 ρ k := by
  have key : ∀ (m i : Nat) (acc : List D) (ρ : Slots), i + m = ds.length → P i acc ρ → lcGo own t test elt (ds.drop i) acc ρ k := by
    intro m
    induction m with
    | zero =>
      intro i acc ρ e h
      rw [show i = ds.length by omega, List.drop_length]
      exact hend acc ρ (by rwa [show i = ds.length by omega] at h)
    | succ m ih =>
      intro i acc ρ e h
      rw [List.drop_eq_getElem_cons (by omega)]
      exact step i _ acc ρ _ (List.getElem?_eq_getElem (by omega)) h fun acc' ρ' h' => ih (i + 1) acc' ρ' (by omega) h'
  exact key ds.length 0 acc0 ρ (by omega) h0
theorem lc2_inv {own own1 : List Nat} {t t1 : TG} {test test1 : Slots → (Bool → Slots → Prop) → Prop} {it1 : Slots → (List D → Slots → Prop) → Prop} {elt : WE} {ds : List D} {ρ : Slots} {k : List D → Slots → Prop} (P : Nat → List D → Slots → Prop) (h0 : P 0 [] ρ)
    (step : ∀ (i : Nat) (d : D) (acc : List D) (ρ : Slots) (K : List D → Slots → Prop), ds[i]? = some d → P i acc ρ → (∀ acc' ρ', P (i + 1) acc' ρ' → K acc' ρ') →
      wpTG t (.fz d) (wipeS ρ own) fun ρ1 => test ρ1 fun b ρ2 => if b = true then it1 ρ2 fun ds1 ρ3 => lcGo own1 t1 test1 elt ds1 acc ρ3 K else K acc ρ2)
    (hend : ∀ acc ρ, P ds.length acc ρ → k acc ρ) : lc2Go own own1 t test t1 it1 test1 elt ds [] ρ k := by
  have key : ∀ (m i : Nat) (acc : List D) (ρ : Slots), i + m = ds.length → P i acc ρ → lc2Go own own1 t test t1 it1 test1 elt (ds.drop i) acc ρ k := by
    intro m
    induction m with
    | zero =>
      intro i acc ρ e h
      rw [show i = ds.length by omega, List.drop_length]
      exact hend acc ρ (by rwa [show i = ds.length by omega] at h)
    | succ m ih =>
      intro i acc ρ e h
      rw [List.drop_eq_getElem_cons (by omega)]
      exact step i _ acc ρ _ (List.getElem?_eq_getElem (by omega)) h fun acc' ρ' h' => ih (i + 1) acc' ρ' (by omega) h'
  exact key ds.length 0 [] ρ (by omega) h0
/-! ### small facts -/
theorem eqv_int (a b : Int) : (PyData.int a).eqv (.int b) = decide (a = b) := by
  show (a == b) = _
  by_cases h : a = b <;> simp [h]
theorem eqv_bool (a b : Bool) : (PyData.bool a).eqv (.bool b) = decide (a = b) := by
  cases a <;> cases b <;> decide +kernel
theorem eqv_str (a b : Str) : (PyData.str a).eqv (.str b) = decide (a = b) := by
  show (a == b) = _
  by_cases h : a = b <;> simp [h]
theorem sh_int (a : Int) : SeqAt.shaped (.int a) = true := by rfl
theorem sh_bool (a : Bool) : SeqAt.shaped (.bool a) = true := by rfl
theorem sz_le {n : Nat} (h : n ≤ 1000) : (n ≤ sizeLine) = True := eq_true (Nat.le_trans h (by decide))
theorem sz_lt {n : Nat} (h : n < 1000) : (n < sizeLine) = True := eq_true (Nat.lt_of_lt_of_le h (by decide))
theorem mul_ok {i j : Int} (h1 : i.natAbs < 2 ^ 400000) (h2 : j.natAbs < 2 ^ 400000) : MulOk i j := by
  unfold MulOk
  have a : i.natAbs.log2 ≤ 400000 := by
    rcases Nat.eq_zero_or_pos i.natAbs with e | e
    · rw [e]; decide
    · exact Nat.le_of_lt ((Nat.log2_lt (by omega)).mpr h1)
  have b : j.natAbs.log2 ≤ 400000 := by
    rcases Nat.eq_zero_or_pos j.natAbs with e | e
    · rw [e]; decide
    · exact Nat.le_of_lt ((Nat.log2_lt (by omega)).mpr h2)
  omega
theorem log2_le_of {n k : Nat} (h : n < 2 ^ k) : n.log2 ≤ k := by
  rcases Nat.eq_zero_or_pos n with e | e
  · rw [e]; exact Nat.zero_le _
  · exact Nat.le_of_lt ((Nat.log2_lt (by omega)).mpr h)
theorem at_get {xs : List D} {k : Int} {P : D → Prop} (h0 : 0 ≤ k) (h1 : k < xs.length) : (∃ d, L2.atI xs k = some d ∧ P d) = P (xs.getD k.toNat .none) := by
  have e : L2.atI xs k = xs[k.toNat]? := by
    unfold L2.atI L2.ixN
    rw [if_pos h0, if_pos h1]; rfl
  rw [e, List.getD_eq_getElem?_getD, List.getElem?_eq_getElem (by omega)]
  simp
theorem at_ints {ns : List Int} {k : Int} {P : D → Prop} (h0 : 0 ≤ k) (h1 : k < ns.length) : (∃ d, L2.atI (ns.map PyData.int) k = some d ∧ P d) = P (.int (ns.getD k.toNat 0)) := by
  rw [at_get h0 (by rw [List.length_map]; exact h1)]
  have h : k.toNat < ns.length := by omega
  rw [List.getD_eq_getElem?_getD, List.getD_eq_getElem?_getD, List.getElem?_map, List.getElem?_eq_getElem h]
  rfl
/-- from the end -/
theorem at_neg {xs : List D} {k : Int} {P : D → Prop} (h0 : k < 0) (h1 : -(xs.length : Int) ≤ k) : (∃ d, L2.atI xs k = some d ∧ P d) = P (xs.getD (k + xs.length).toNat .none) := by
  have e : L2.atI xs k = xs[(k + xs.length).toNat]? := by
    unfold L2.atI L2.ixN
    rw [if_neg (by omega), if_pos h1]; rfl
  rw [e, List.getD_eq_getElem?_getD, List.getElem?_eq_getElem (by omega)]
  simp
theorem ix_at {n : Nat} {k : Int} {P : Nat → Prop} (h0 : 0 ≤ k) (h1 : k < n) : (∃ j, L2.ixN n k = some j ∧ P j) = P k.toNat := by
  unfold L2.ixN
  rw [if_pos h0, if_pos h1]
  simp
theorem mok {i j : Int} (h1 : -2 ^ 2000 < i) (h2 : i < 2 ^ 2000) (h3 : -2 ^ 2000 < j) (h4 : j < 2 ^ 2000) : MulOk i j := by
  have a := log2_le_of (n := i.natAbs) (k := 2000) (by omega)
  have b := log2_le_of (n := j.natAbs) (k := 2000) (by omega)
  unfold MulOk
  omega
theorem dok {j : Int} (h0 : j ≠ 0) (h1 : -2 ^ 2000 < j) (h2 : j < 2 ^ 2000) : DivOk j := by
  have a := log2_le_of (n := j.natAbs) (k := 2000) (by omega)
  exact ⟨h0, by omega⟩
theorem mulB {a b A B : Int} (h1 : 0 ≤ a) (h2 : a ≤ A) (h3 : 0 ≤ b) (h4 : b ≤ B) : 0 ≤ a * b ∧ a * b ≤ A * B :=
  ⟨Int.mul_nonneg h1 h3, Int.mul_le_mul h2 h4 h3 (by omega)⟩
theorem fmod_n {a b : Int} (h : 0 ≤ b) : a.fmod b = a % b := Int.fmod_eq_emod_of_nonneg a h
theorem fdiv_n {a b : Int} (h : 0 ≤ b) : a.fdiv b = a / b := Int.fdiv_eq_ediv_of_nonneg a h
/-! ### slices -/
theorem sIx_s {n d : Nat} {k : Int} (h : 0 ≤ k) : HT.sIx n d (some k) = min k.toNat n := by
  show (if k < 0 then (k + (n : Int)).toNat else min k.toNat n) = _
  rw [if_neg (by omega)]
theorem sIx_0 {n d : Nat} : HT.sIx n d none = d := rfl
theorem cut_to {xs : List D} {k : Int} (h : 0 ≤ k) : cutD xs none (some k) = xs.take k.toNat := by
  unfold cutD
  rw [sIx_s h, sIx_0, List.drop_zero, Nat.sub_zero, List.take_eq_take_iff]; omega
theorem cut_from {xs : List D} {k : Int} (h : 0 ≤ k) : cutD xs (some k) none = xs.drop k.toNat := by
  unfold cutD
  rw [sIx_s h, sIx_0]
  rcases Nat.le_total k.toNat xs.length with e | e
  · rw [Nat.min_eq_left e, List.take_of_length_le (by rw [List.length_drop]; exact Nat.le_refl _)]
  · rw [Nat.min_eq_right e, List.drop_eq_nil_of_le (Nat.le_refl _), List.drop_eq_nil_of_le e]; simp
theorem cut_mid {xs : List D} {i k : Int} (h : 0 ≤ i) (h2 : 0 ≤ k) : cutD xs (some i) (some k) = (xs.drop i.toNat).take (k.toNat - i.toNat) := by
  unfold cutD
  rw [sIx_s h, sIx_s h2]
  rcases Nat.le_total i.toNat xs.length with e | e
  · rw [Nat.min_eq_left e, List.take_eq_take_iff, List.length_drop]; omega
  · rw [Nat.min_eq_right e, List.drop_eq_nil_of_le (Nat.le_refl _), List.drop_eq_nil_of_le e]; simp
theorem enum_get {xs : List D} {i : Nat} {d : D} (h : (enumD xs)[i]? = some d) : ∃ x, xs[i]? = some x ∧ d = .tuple [.int i, x] := by
  unfold enumD at h
  rw [List.getElem?_map, List.getElem?_zipIdx, Nat.zero_add, Option.map_map] at h
  obtain ⟨x, hx, e⟩ := Option.map_eq_some_iff.mp h
  exact ⟨x, hx, e.symm⟩
theorem all_isInt (ns : List Int) : (ns.map PyData.int).all isInt = true := by
  rw [List.all_eq_true]
  intro x hx
  obtain ⟨n, _, rfl⟩ := List.mem_map.mp hx; rfl
theorem map_intOf (ns : List Int) : (ns.map PyData.int).map intOf = ns := by
  rw [List.map_map]
  exact List.map_id ns
theorem all_isBool (ns : List Bool) : (ns.map PyData.bool).all isBool = true := by
  rw [List.all_eq_true]
  intro x hx
  obtain ⟨n, _, rfl⟩ := List.mem_map.mp hx; rfl
theorem map_boolOf (ns : List Bool) : (ns.map PyData.bool).map boolOf = ns := by
  rw [List.map_map]
  exact List.map_id ns
theorem take_ints (ns : List Int) (k : Nat) : (ns.map PyData.int).take k = (ns.take k).map PyData.int := List.map_take.symm
theorem drop_ints (ns : List Int) (k : Nat) : (ns.map PyData.int).drop k = (ns.drop k).map PyData.int := List.map_drop.symm
def ctl : CSs → CSs
  | .cons _ r => r
  | .nil => .nil
theorem rng_len (lo hi : Int) : (rngD lo hi).length = (hi - lo).toNat := by unfold rngD; simp
theorem rng_get {lo hi : Int} {i : Nat} {d : D} (h : (rngD lo hi)[i]? = some d) : d = .int (lo + i) ∧ (i : Int) < hi - lo := by
  have hl := (List.getElem?_eq_some_iff.mp h).1
  rw [rng_len] at hl
  unfold rngD at h
  rw [List.getElem?_map, List.getElem?_range hl] at h
  exact ⟨(Option.some.inj h).symm, by omega⟩
end TL
end
section
set_option autoImplicit false
set_option maxHeartbeats 4000000
/-! TL21: the runs step by step, where the slots are told (printed by gen21.py) -/
namespace TL
open PySem
def wv (o : Option Sl) (A : D → Prop) (B : List D → Prop) : Prop := match o with
  | some (.fz d) => A d
  | some (.own ds) => B ds
  | _ => False
section
variable {G : String → Option D} {C : CallW}
theorem x_var {z : Sl} {ρ : Slots} {i : Nat} {Q : RV → Slots → Prop} : TL.wpE G C (.var i) (z :: ρ) Q = (wv (z :: ρ)[i]? (fun d => Q (.fz d) (z :: ρ)) (fun ds => Q (.fz (.list ds)) ((z :: ρ).set i (.fz (.list ds))))) := by
  simp only [TL.wpE] <;> first | done | exact propext Iff.rfl
theorem x_lit {z : Sl} {ρ : Slots} {d : D} {Q : RV → Slots → Prop} : TL.wpE G C (.lit d) (z :: ρ) Q = (Q (.fz d) (z :: ρ)) := by
  simp only [TL.wpE] <;> first | done | exact propext Iff.rfl
theorem x_glb {z : Sl} {ρ : Slots} {x : String} {d : D} {Q : RV → Slots → Prop} (h : G x = some d) : TL.wpE G C (.glb x) (z :: ρ) Q = Q (.fz d) (z :: ρ) := by
  simp only [TL.wpE, h]
theorem x_tup {z : Sl} {ρ : Slots} {es : CEs} {Q : RV → Slots → Prop} : TL.wpE G C (.tup es) (z :: ρ) Q = (TL.wpEs G C es (z :: ρ) fun rs ρ1 => rs.length ≤ sizeLine ∧ Q (.fz (.tuple (rs.map RV.d))) ρ1) := by
  simp only [TL.wpE] <;> first | done | exact propext Iff.rfl
theorem x_lst {z : Sl} {ρ : Slots} {es : CEs} {Q : RV → Slots → Prop} : TL.wpE G C (.lst es) (z :: ρ) Q = (TL.wpEs G C es (z :: ρ) fun rs ρ1 => rs.length ≤ sizeLine ∧ Q (.own (rs.map RV.d)) ρ1) := by
  simp only [TL.wpE] <;> first | done | exact propext Iff.rfl
theorem x_emp {z : Sl} {ρ : Slots}  {Q : RV → Slots → Prop} : TL.wpE G C (.emp) (z :: ρ) Q = (Q (.fz (.dict [])) (z :: ρ)) := by
  simp only [TL.wpE] <;> first | done | exact propext Iff.rfl
theorem x_rvs {z : Sl} {ρ : Slots} {a : CE} {Q : RV → Slots → Prop} : TL.wpE G C (.rvs a) (z :: ρ) Q = (opd a (TL.wpE G C a) (z :: ρ) fun oa ρ1 => lk ρ1 oa fun x => wpRvs x fun r => Q r ρ1) := by
  simp only [TL.wpE] <;> first | done | exact propext Iff.rfl
theorem x_met {z : Sl} {ρ : Slots} {m : M1} {a b : CE} {Q : RV → Slots → Prop} : TL.wpE G C (.met m a b) (z :: ρ) Q = (opd a (TL.wpE G C a) (z :: ρ) fun oa ρ1 => lk ρ1 oa (fun x => tyD x = tyM m) ∧ opd b (TL.wpE G C b) ρ1 fun ob ρ2 => lk ρ2 oa fun x => lk ρ2 ob fun y => wpM1 m x y fun d => Q (.fz d) ρ2) := by
  simp only [TL.wpE] <;> first | done | exact propext Iff.rfl
theorem x_dc1 {z : Sl} {ρ : Slots} {k : Int} {a : CE} {Q : RV → Slots → Prop} : TL.wpE G C (.dc1 k a) (z :: ρ) Q = (TL.wpE G C a (z :: ρ) fun r ρ1 => Q (.fz (.dict [(.int k, r.d)])) ρ1) := by
  simp only [TL.wpE] <;> first | done | exact propext Iff.rfl
theorem x_dc2 {z : Sl} {ρ : Slots} {k k2 : Int} {a b : CE} {Q : RV → Slots → Prop} : TL.wpE G C (.dc2 k k2 a b) (z :: ρ) Q = (k ≠ k2 ∧ TL.wpE G C a (z :: ρ) fun r ρ1 => TL.wpE G C b ρ1 fun r2 ρ2 => Q (.fz (.dict [(.int k, r.d), (.int k2, r2.d)])) ρ2) := by
  simp only [TL.wpE] <;> first | done | exact propext Iff.rfl
theorem x_bin {z : Sl} {ρ : Slots} {o : PySem.Operator} {a b : CE} {Q : RV → Slots → Prop} : TL.wpE G C (.bin o a b) (z :: ρ) Q = (opd a (TL.wpE G C a) (z :: ρ) fun oa ρ1 => opd b (TL.wpE G C b) ρ1 fun ob ρ2 => lk ρ2 oa fun x => lk ρ2 ob fun y => wpBin o x y fun r => Q r ρ2) := by
  simp only [TL.wpE] <;> first | done | exact propext Iff.rfl
theorem x_neg {z : Sl} {ρ : Slots} {a : CE} {Q : RV → Slots → Prop} : TL.wpE G C (.neg a) (z :: ρ) Q = (opd a (TL.wpE G C a) (z :: ρ) fun oa ρ1 => lk ρ1 oa fun x => asInt x fun i => Q (.fz (.int (-i))) ρ1) := by
  simp only [TL.wpE] <;> first | done | exact propext Iff.rfl
theorem x_nt {z : Sl} {ρ : Slots} {a : CE} {Q : RV → Slots → Prop} : TL.wpE G C (.nt a) (z :: ρ) Q = (opd a (TL.wpE G C a) (z :: ρ) fun oa ρ1 => lk ρ1 oa fun x => asBool x fun b => Q (.fz (.bool (!b))) ρ1) := by
  simp only [TL.wpE] <;> first | done | exact propext Iff.rfl
theorem x_cmp {z : Sl} {ρ : Slots} {o : PySem.CmpOp} {a b : CE} {Q : RV → Slots → Prop} : TL.wpE G C (.cmp o a b) (z :: ρ) Q = (opd a (TL.wpE G C a) (z :: ρ) fun oa ρ1 => opd b (TL.wpE G C b) ρ1 fun ob ρ2 => lk ρ2 oa fun x => lk ρ2 ob fun y => wpCmp o x y fun d => Q (.fz d) ρ2) := by
  simp only [TL.wpE] <;> first | done | exact propext Iff.rfl
theorem x_chn {z : Sl} {ρ : Slots} {o o' : PySem.CmpOp} {a b c : CE} {Q : RV → Slots → Prop} : TL.wpE G C ((.chn o o' a b c)) (z :: ρ) Q = (opd a (TL.wpE G C a) (z :: ρ) fun oa ρ1 => opd b (TL.wpE G C b) ρ1 fun ob ρ2 => lk ρ2 oa fun x => lk ρ2 ob fun y => wpCmp o x y fun d => asBool d fun k =>
      if k = true then opd c (TL.wpE G C c) ρ2 fun oc ρ3 => lk ρ3 ob fun y' => lk ρ3 oc fun z => wpCmp o' y' z fun d' => Q (.fz d') ρ3 else Q (.fz (.bool false)) ρ2) := by
  simp only [TL.wpE] <;> first | done | exact propext Iff.rfl
theorem x_and {z : Sl} {ρ : Slots} {a b : CE} {Q : RV → Slots → Prop} : TL.wpE G C (.and a b) (z :: ρ) Q = (TL.wpE G C a (z :: ρ) fun r ρ1 => asBool r.d fun k => if k = true then TL.wpE G C b ρ1 Q else Q (.fz (.bool false)) ρ1) := by
  simp only [TL.wpE] <;> first | done | exact propext Iff.rfl
theorem x_or {z : Sl} {ρ : Slots} {a b : CE} {Q : RV → Slots → Prop} : TL.wpE G C (.or a b) (z :: ρ) Q = (TL.wpE G C a (z :: ρ) fun r ρ1 => asBool r.d fun k => if k = true then Q (.fz (.bool true)) ρ1 else TL.wpE G C b ρ1 Q) := by
  simp only [TL.wpE] <;> first | done | exact propext Iff.rfl
theorem x_ife {z : Sl} {ρ : Slots} {t : CT} {a b : CE} {Q : RV → Slots → Prop} : TL.wpE G C (.ife t a b) (z :: ρ) Q = (TL.wpT G C t (z :: ρ) fun k ρ1 => if k = true then TL.wpE G C a ρ1 Q else TL.wpE G C b ρ1 Q) := by
  simp only [TL.wpE] <;> first | done | exact propext Iff.rfl
theorem x_idx {z : Sl} {ρ : Slots} {a b : CE} {Q : RV → Slots → Prop} : TL.wpE G C (.idx a b) (z :: ρ) Q = (opd a (TL.wpE G C a) (z :: ρ) fun oa ρ1 => opd b (TL.wpE G C b) ρ1 fun ob ρ2 => lk ρ2 oa fun x => lk ρ2 ob fun y => wpIdx x y fun d => Q (.fz d) ρ2) := by
  simp only [TL.wpE] <;> first | done | exact propext Iff.rfl
theorem x_slc {z : Sl} {ρ : Slots} {a : CE} {lo hi : CO} {Q : RV → Slots → Prop} : TL.wpE G C (.slc a lo hi) (z :: ρ) Q = (opd a (TL.wpE G C a) (z :: ρ) fun oa ρ1 => TL.wpCO G C lo ρ1 fun l ρ2 => TL.wpCO G C hi ρ2 fun h ρ3 => lk ρ3 oa fun x => wpSlc x l h fun r => Q r ρ3) := by
  simp only [TL.wpE] <;> first | done | exact propext Iff.rfl
theorem x_call {z : Sl} {ρ : Slots} {f : String} {es : CEs} {Q : RV → Slots → Prop} : TL.wpE G C (.call f es) (z :: ρ) Q = (TL.wpEs G C es (z :: ρ) fun rs ρ1 => C f (rs.map RV.d) fun r _ => Q r ρ1) := by
  simp only [TL.wpE] <;> first | done | exact propext Iff.rfl
theorem x_pcall {z : Sl} {ρ : Slots} {f : String} {i : Nat} {es : CEs} {Q : RV → Slots → Prop} : TL.wpE G C (.pcall f i es) (z :: ρ) Q = (heldS (z :: ρ) i (fun _ => True) ∧ TL.wpEs G C es (z :: ρ) fun rs ρ1 => heldS ρ1 i fun ds => C f (.list ds :: rs.map RV.d) fun r out => Q r (setH ρ1 i out)) := by
  simp only [TL.wpE] <;> first | done | exact propext Iff.rfl
theorem x_bl1 {z : Sl} {ρ : Slots} {b : B1} {a : CE} {Q : RV → Slots → Prop} : TL.wpE G C (.bl1 b a) (z :: ρ) Q = (opd a (TL.wpE G C a) (z :: ρ) fun oa ρ1 => lk ρ1 oa fun x => wpB1 b x fun r => Q r ρ1) := by
  simp only [TL.wpE] <;> first | done | exact propext Iff.rfl
theorem x_bl2 {z : Sl} {ρ : Slots} {k : B2} {a b : CE} {Q : RV → Slots → Prop} : TL.wpE G C (.bl2 k a b) (z :: ρ) Q = (opd a (TL.wpE G C a) (z :: ρ) fun oa ρ1 => opd b (TL.wpE G C b) ρ1 fun ob ρ2 => lk ρ2 oa fun x => lk ρ2 ob fun y => wpB2 k x y fun r => Q r ρ2) := by
  simp only [TL.wpE] <;> first | done | exact propext Iff.rfl
theorem x_isi {z : Sl} {ρ : Slots} {a : CE} {ts : List String} {Q : RV → Slots → Prop} : TL.wpE G C (.isi a ts) (z :: ρ) Q = (opd a (TL.wpE G C a) (z :: ρ) fun oa ρ1 => lk ρ1 oa fun x => Q (.fz (.bool (ts.any (isiD x)))) ρ1) := by
  simp only [TL.wpE] <;> first | done | exact propext Iff.rfl
theorem x_pop {z : Sl} {ρ : Slots} {i : Nat} {Q : RV → Slots → Prop} : TL.wpE G C (.pop i) (z :: ρ) Q = (heldS (z :: ρ) i fun ds => ∃ d, ds[ds.length - 1]? = some d ∧ Q (.fz d) (setH (z :: ρ) i ds.dropLast)) := by
  simp only [TL.wpE] <;> first | done | exact propext Iff.rfl
theorem x_lc {z : Sl} {ρ : Slots} {e : CE} {t : TG} {it : IT} {c : CTO} {own : List Nat} {Q : RV → Slots → Prop} : TL.wpE G C (.lc e t it c own) (z :: ρ) Q = (TL.wpIt G C it (z :: ρ) fun ds ρ1 => freeS ρ1 own ∧ lcGo own t (TL.wpCT G C c) (TL.wpE G C e) ds [] ρ1 fun acc ρ2 => Q (.own acc) (backS ρ1 ρ2 own)) := by
  simp only [TL.wpE] <;> first | done | exact propext Iff.rfl
theorem x_lc2 {z : Sl} {ρ : Slots} {e : CE} {t : TG} {it : IT} {c : CTO} {t1 : TG} {it1 : IT} {c1 : CTO} {own own1 : List Nat} {Q : RV → Slots → Prop} : TL.wpE G C (.lc2 e t it c t1 it1 c1 own own1) (z :: ρ) Q = (TL.wpIt G C it (z :: ρ) fun ds ρ1 => freeS ρ1 own ∧ lc2Go own own1 t (TL.wpCT G C c) t1 (TL.wpIt G C it1) (TL.wpCT G C c1) (TL.wpE G C e) ds [] ρ1 fun acc ρ2 => Q (.own acc) (backS ρ1 ρ2 own)) := by
  simp only [TL.wpE] <;> first | done | exact propext Iff.rfl
theorem x_nil {z : Sl} {ρ : Slots} {Q : List RV → Slots → Prop} : TL.wpEs G C .nil (z :: ρ) Q = (Q [] (z :: ρ)) := by
  simp only [TL.wpEs] <;> first | done | exact propext Iff.rfl
theorem x_cons {z : Sl} {ρ : Slots} {e : CE} {es : CEs} {Q : List RV → Slots → Prop} : TL.wpEs G C (.cons e es) (z :: ρ) Q = (TL.wpE G C e (z :: ρ) fun r ρ1 => TL.wpEs G C es ρ1 fun rs ρ2 => Q (r :: rs) ρ2) := by
  simp only [TL.wpEs] <;> first | done | exact propext Iff.rfl
theorem x_no {z : Sl} {ρ : Slots} {Q : Option Int → Slots → Prop} : TL.wpCO G C .no (z :: ρ) Q = (Q none (z :: ρ)) := by
  simp only [TL.wpCO] <;> first | done | exact propext Iff.rfl
theorem x_so {z : Sl} {ρ : Slots} {e : CE} {Q : Option Int → Slots → Prop} : TL.wpCO G C (.so e) (z :: ρ) Q = (TL.wpE G C e (z :: ρ) fun r ρ1 => asInt r.d fun i => Q (some i) ρ1) := by
  simp only [TL.wpCO] <;> first | done | exact propext Iff.rfl
theorem x_tof {z : Sl} {ρ : Slots} {e : CE} {Q : Bool → Slots → Prop} : TL.wpT G C (.of e) (z :: ρ) Q = (opd e (TL.wpE G C e) (z :: ρ) fun o ρ1 => lk ρ1 o fun x => wpTru x fun b => Q b ρ1) := by
  simp only [TL.wpT] <;> first | done | exact propext Iff.rfl
theorem x_tand {z : Sl} {ρ : Slots} {a b : CT} {Q : Bool → Slots → Prop} : TL.wpT G C (.and a b) (z :: ρ) Q = (TL.wpT G C a (z :: ρ) fun k ρ1 => if k = true then TL.wpT G C b ρ1 Q else Q false ρ1) := by
  simp only [TL.wpT] <;> first | done | exact propext Iff.rfl
theorem x_tor {z : Sl} {ρ : Slots} {a b : CT} {Q : Bool → Slots → Prop} : TL.wpT G C (.or a b) (z :: ρ) Q = (TL.wpT G C a (z :: ρ) fun k ρ1 => if k = true then Q true ρ1 else TL.wpT G C b ρ1 Q) := by
  simp only [TL.wpT] <;> first | done | exact propext Iff.rfl
theorem x_tnt {z : Sl} {ρ : Slots} {a : CT} {Q : Bool → Slots → Prop} : TL.wpT G C (.nt a) (z :: ρ) Q = (TL.wpT G C a (z :: ρ) fun k ρ1 => Q (!k) ρ1) := by
  simp only [TL.wpT] <;> first | done | exact propext Iff.rfl
theorem x_tite {z : Sl} {ρ : Slots} {c a b : CT} {Q : Bool → Slots → Prop} : TL.wpT G C (.ite c a b) (z :: ρ) Q = (TL.wpT G C c (z :: ρ) fun k ρ1 => if k = true then TL.wpT G C a ρ1 Q else TL.wpT G C b ρ1 Q) := by
  simp only [TL.wpT] <;> first | done | exact propext Iff.rfl
theorem x_ctno {z : Sl} {ρ : Slots} {Q : Bool → Slots → Prop} : TL.wpCT G C .no (z :: ρ) Q = (Q true (z :: ρ)) := by
  simp only [TL.wpCT] <;> first | done | exact propext Iff.rfl
theorem x_ctso {z : Sl} {ρ : Slots} {t : CT} {Q : Bool → Slots → Prop} : TL.wpCT G C (.so t) (z :: ρ) Q = (TL.wpT G C t (z :: ρ) Q) := by
  simp only [TL.wpCT] <;> first | done | exact propext Iff.rfl
theorem x_iof {z : Sl} {ρ : Slots} {e : CE} {Q : List D → Slots → Prop} : TL.wpIt G C (.of e) (z :: ρ) Q = (TL.wpE G C e (z :: ρ) fun r ρ1 => itemsD r.d fun xs => Q xs ρ1) := by
  simp only [TL.wpIt] <;> first | done | exact propext Iff.rfl
theorem x_irng1 {z : Sl} {ρ : Slots} {a : CE} {Q : List D → Slots → Prop} : TL.wpIt G C (.rng1 a) (z :: ρ) Q = (TL.wpE G C a (z :: ρ) fun r ρ1 => asInt r.d fun j => rngOk j ∧ Q (rngD 0 j) ρ1) := by
  simp only [TL.wpIt] <;> first | done | exact propext Iff.rfl
theorem x_irng2 {z : Sl} {ρ : Slots} {a b : CE} {Q : List D → Slots → Prop} : TL.wpIt G C (.rng2 a b) (z :: ρ) Q = (TL.wpE G C a (z :: ρ) fun r ρ1 => TL.wpE G C b ρ1 fun r' ρ2 => asInt r.d fun i => asInt r'.d fun j => rngOk i ∧ rngOk j ∧ Q (rngD i j) ρ2) := by
  simp only [TL.wpIt] <;> first | done | exact propext Iff.rfl
theorem x_irng3 {z : Sl} {ρ : Slots} {a b : CE} {c : Int} {Q : List D → Slots → Prop} : TL.wpIt G C (.rng3 a b c) (z :: ρ) Q = (TL.wpE G C a (z :: ρ) fun r ρ1 => TL.wpE G C b ρ1 fun r' ρ2 => asInt r.d fun i => asInt r'.d fun j => c ≠ 0 ∧ c.natAbs < 1000 ∧ PySem.Builtin.Range.small i j c = true ∧ Q (rng3D i j c) ρ2) := by
  simp only [TL.wpIt] <;> first | done | exact propext Iff.rfl
theorem x_ienum {z : Sl} {ρ : Slots} {a : CE} {Q : List D → Slots → Prop} : TL.wpIt G C (.enum a) (z :: ρ) Q = (TL.wpE G C a (z :: ρ) fun r ρ1 => itemsD r.d fun xs => Q (enumD xs) ρ1) := by
  simp only [TL.wpIt] <;> first | done | exact propext Iff.rfl
theorem x_izip {z : Sl} {ρ : Slots} {a b : CE} {st : Option Bool} {Q : List D → Slots → Prop} : TL.wpIt G C (.zip a b st) (z :: ρ) Q = (TL.wpE G C a (z :: ρ) fun r ρ1 => TL.wpE G C b ρ1 fun r' ρ2 => zipD st r.d r'.d fun ds => Q ds ρ2) := by
  simp only [TL.wpIt] <;> first | done | exact propext Iff.rfl
theorem x_irev {z : Sl} {ρ : Slots} {a : CE} {Q : List D → Slots → Prop} : TL.wpIt G C (.rev a) (z :: ρ) Q = (TL.wpE G C a (z :: ρ) fun r ρ1 => itemsD r.d fun xs => Q xs.reverse ρ1) := by
  simp only [TL.wpIt] <;> first | done | exact propext Iff.rfl
theorem s_asg_ {z : Sl} {ρ : Slots} {t : TG} {e : CE} {n1 : Slots → Prop} {n2 : RV → Slots → Prop} {n3 n4 : Slots → Prop} : TL.wpS G C (.asg t e) (z :: ρ) ⟨n1, n2, n3, n4⟩ = (TL.wpE G C e (z :: ρ) fun r ρ1 => wpTG t r ρ1 n1) := by
  simp only [TL.wpS] <;> first | done | exact propext Iff.rfl
theorem s_par_ {z : Sl} {ρ : Slots} {is : List Nat} {es : CEs} {n1 : Slots → Prop} {n2 : RV → Slots → Prop} {n3 n4 : Slots → Prop} : TL.wpS G C (.par is es) (z :: ρ) ⟨n1, n2, n3, n4⟩ = (TL.wpEs G C es (z :: ρ) fun rs ρ1 => rs.length = is.length ∧ (∀ i ∈ is, canSet ρ1 i) ∧ n1 ((is.zip rs).foldl (fun ρ p => ρ.set p.1 p.2.sl) ρ1)) := by
  simp only [TL.wpS] <;> first | done | exact propext Iff.rfl
theorem s_sub_ {z : Sl} {ρ : Slots} {i : Nat} {ix e : CE} {n1 : Slots → Prop} {n2 : RV → Slots → Prop} {n3 n4 : Slots → Prop} : TL.wpS G C (.sub i ix e) (z :: ρ) ⟨n1, n2, n3, n4⟩ = (TL.wpE G C e (z :: ρ) fun r ρ1 => heldS ρ1 i (fun _ => True) ∧ TL.wpE G C ix ρ1 fun r' ρ2 => asInt r'.d fun k => heldS ρ2 i fun ds => ∃ j, L2.ixN ds.length k = some j ∧ n1 (setH ρ2 i (ds.set j r.d))) := by
  simp only [TL.wpS] <;> first | done | exact propext Iff.rfl
theorem s_aug_ {z : Sl} {ρ : Slots} {i : Nat} {o : PySem.Operator} {e : CE} {n1 : Slots → Prop} {n2 : RV → Slots → Prop} {n3 n4 : Slots → Prop} : TL.wpS G C (.aug i o e) (z :: ρ) ⟨n1, n2, n3, n4⟩ = (TL.wpE G C (.var i) (z :: ρ) fun r ρ1 => TL.wpE G C e ρ1 fun r' ρ2 => wpAug o r.d r'.d fun z => canSet ρ2 i ∧ n1 (ρ2.set i z.sl)) := by
  simp only [TL.wpS] <;> first | done | exact propext Iff.rfl
theorem s_swp_ {z : Sl} {ρ : Slots} {i : Nat} {j1 j2 e1 e2 : CE} {n1 : Slots → Prop} {n2 : RV → Slots → Prop} {n3 n4 : Slots → Prop} : TL.wpS G C (.swp i j1 j2 e1 e2) (z :: ρ) ⟨n1, n2, n3, n4⟩ = (TL.wpE G C e1 (z :: ρ) fun r1 ρ1 => TL.wpE G C e2 ρ1 fun r2 ρ2 => [r1, r2].length ≤ sizeLine ∧ subW i (TL.wpE G C j1) r1.d ρ2 fun ρ3 => subW i (TL.wpE G C j2) r2.d ρ3 n1) := by
  simp only [TL.wpS] <;> first | done | exact propext Iff.rfl
theorem s_augs_ {z : Sl} {ρ : Slots} {i : Nat} {ix e : CE} {o : PySem.Operator} {n1 : Slots → Prop} {n2 : RV → Slots → Prop} {n3 n4 : Slots → Prop} : TL.wpS G C (.augs i ix o e) (z :: ρ) ⟨n1, n2, n3, n4⟩ = (heldS (z :: ρ) i (fun _ => True) ∧ TL.wpE G C ix (z :: ρ) fun rk ρ1 => asInt rk.d fun k => heldS ρ1 i fun ds => ∃ d, L2.atI ds k = some d ∧ TL.wpE G C e ρ1 fun r ρ2 => wpAug o d r.d fun z => heldS ρ2 i fun ds => ∃ j, L2.ixN ds.length k = some j ∧ n1 (setH ρ2 i (ds.set j z.d))) := by
  simp only [TL.wpS] <;> first | done | exact propext Iff.rfl
theorem s_subW {z : Sl} {ρ : Slots} {i : Nat} {w : WE} {d : D} {k : Slots → Prop} : subW i w d (z :: ρ) k = (heldS (z :: ρ) i (fun _ => True) ∧ w (z :: ρ) fun r' ρ2 => asInt r'.d fun n => heldS ρ2 i fun ds => ∃ j, L2.ixN ds.length n = some j ∧ k (setH ρ2 i (ds.set j d))) := propext Iff.rfl
theorem s_exp_ {z : Sl} {ρ : Slots} {e : CE} {n1 : Slots → Prop} {n2 : RV → Slots → Prop} {n3 n4 : Slots → Prop} : TL.wpS G C (.exp e) (z :: ρ) ⟨n1, n2, n3, n4⟩ = (TL.wpE G C e (z :: ρ) fun _ ρ1 => n1 ρ1) := by
  simp only [TL.wpS] <;> first | done | exact propext Iff.rfl
theorem s_app_ {z : Sl} {ρ : Slots} {i : Nat} {e : CE} {n1 : Slots → Prop} {n2 : RV → Slots → Prop} {n3 n4 : Slots → Prop} : TL.wpS G C (.app i e) (z :: ρ) ⟨n1, n2, n3, n4⟩ = (heldS (z :: ρ) i (fun _ => True) ∧ TL.wpE G C e (z :: ρ) fun r ρ1 => heldS ρ1 i fun ds => ds.length < sizeLine ∧ n1 (setH ρ1 i (ds ++ [r.d]))) := by
  simp only [TL.wpS] <;> first | done | exact propext Iff.rfl
theorem s_ite_ {z : Sl} {ρ : Slots} {t : CT} {a b : CSs} {n1 : Slots → Prop} {n2 : RV → Slots → Prop} {n3 n4 : Slots → Prop} : TL.wpS G C (.ite t a b) (z :: ρ) ⟨n1, n2, n3, n4⟩ = (TL.wpT G C t (z :: ρ) fun k ρ1 => if k = true then TL.wpSs G C a ρ1 ⟨n1, n2, n3, n4⟩ else TL.wpSs G C b ρ1 ⟨n1, n2, n3, n4⟩) := by
  simp only [TL.wpS] <;> first | done | exact propext Iff.rfl
theorem s_for_ {z : Sl} {ρ : Slots} {t : TG} {it : IT} {b : CSs} {n1 : Slots → Prop} {n2 : RV → Slots → Prop} {n3 n4 : Slots → Prop} : TL.wpS G C (.for t it b) (z :: ρ) ⟨n1, n2, n3, n4⟩ = (TL.wpIt G C it (z :: ρ) fun ds ρ1 => forGo t (TL.wpSs G C b) ds ρ1 ⟨n1, n2, n3, n4⟩) := by
  simp only [TL.wpS] <;> first | done | exact propext Iff.rfl
theorem s_whl_ {z : Sl} {ρ : Slots} {t : CT} {b : CSs} {n1 : Slots → Prop} {n2 : RV → Slots → Prop} {n3 n4 : Slots → Prop} : TL.wpS G C (.whl t b) (z :: ρ) ⟨n1, n2, n3, n4⟩ = (∃ n, whGo (TL.wpT G C t) (TL.wpSs G C b) n (z :: ρ) ⟨n1, n2, n3, n4⟩) := by
  simp only [TL.wpS] <;> first | done | exact propext Iff.rfl
theorem s_retN_ {z : Sl} {ρ : Slots}  {n1 : Slots → Prop} {n2 : RV → Slots → Prop} {n3 n4 : Slots → Prop} : TL.wpS G C (.retN) (z :: ρ) ⟨n1, n2, n3, n4⟩ = (n2 (.fz .none) (z :: ρ)) := by
  simp only [TL.wpS] <;> first | done | exact propext Iff.rfl
theorem s_brk_ {z : Sl} {ρ : Slots}  {n1 : Slots → Prop} {n2 : RV → Slots → Prop} {n3 n4 : Slots → Prop} : TL.wpS G C (.brk) (z :: ρ) ⟨n1, n2, n3, n4⟩ = (n3 (z :: ρ)) := by
  simp only [TL.wpS] <;> first | done | exact propext Iff.rfl
theorem s_cnt_ {z : Sl} {ρ : Slots}  {n1 : Slots → Prop} {n2 : RV → Slots → Prop} {n3 n4 : Slots → Prop} : TL.wpS G C (.cnt) (z :: ρ) ⟨n1, n2, n3, n4⟩ = (n4 (z :: ρ)) := by
  simp only [TL.wpS] <;> first | done | exact propext Iff.rfl
theorem s_pas_ {z : Sl} {ρ : Slots}  {n1 : Slots → Prop} {n2 : RV → Slots → Prop} {n3 n4 : Slots → Prop} : TL.wpS G C (.pas) (z :: ρ) ⟨n1, n2, n3, n4⟩ = (n1 (z :: ρ)) := by
  simp only [TL.wpS] <;> first | done | exact propext Iff.rfl
theorem ss_nil_ {z : Sl} {ρ : Slots} {n1 : Slots → Prop} {n2 : RV → Slots → Prop} {n3 n4 : Slots → Prop} : TL.wpSs G C .nil (z :: ρ) ⟨n1, n2, n3, n4⟩ = (n1 (z :: ρ)) := by
  simp only [TL.wpSs] <;> first | done | exact propext Iff.rfl
theorem ss_cons_ {z : Sl} {ρ : Slots} {s : CS} {ss : CSs} {n1 : Slots → Prop} {n2 : RV → Slots → Prop} {n3 n4 : Slots → Prop} : TL.wpSs G C (.cons s ss) (z :: ρ) ⟨n1, n2, n3, n4⟩ = (TL.wpS G C s (z :: ρ) ⟨fun ρ1 => TL.wpSs G C ss ρ1 ⟨n1, n2, n3, n4⟩, n2, n3, n4⟩) := by
  simp only [TL.wpSs] <;> first | done | exact propext Iff.rfl
theorem o_dc1 {z : Sl} {ρ : Slots} {w : WE} {k : Op → Slots → Prop} {i : Int} {a : CE} : opd (.dc1 i a) w (z :: ρ) k = (w (z :: ρ) fun r ρ' => k (.val r.d) ρ') := propext Iff.rfl
theorem s_ret_dc1 {z : Sl} {ρ : Slots} {i : Int} {a : CE} {n1 : Slots → Prop} {n2 : RV → Slots → Prop} {n3 n4 : Slots → Prop} : TL.wpS G C (.ret (.dc1 i a)) (z :: ρ) ⟨n1, n2, n3, n4⟩ = (TL.wpE G C (.dc1 i a) (z :: ρ) n2) := by
  simp only [TL.wpS] <;> first | done | exact propext Iff.rfl
theorem o_dc2 {z : Sl} {ρ : Slots} {w : WE} {k : Op → Slots → Prop} {i : Int} {j : Int} {a : CE} {b : CE} : opd (.dc2 i j a b) w (z :: ρ) k = (w (z :: ρ) fun r ρ' => k (.val r.d) ρ') := propext Iff.rfl
theorem s_ret_dc2 {z : Sl} {ρ : Slots} {i : Int} {j : Int} {a : CE} {b : CE} {n1 : Slots → Prop} {n2 : RV → Slots → Prop} {n3 n4 : Slots → Prop} : TL.wpS G C (.ret (.dc2 i j a b)) (z :: ρ) ⟨n1, n2, n3, n4⟩ = (TL.wpE G C (.dc2 i j a b) (z :: ρ) n2) := by
  simp only [TL.wpS] <;> first | done | exact propext Iff.rfl
theorem o_emp {z : Sl} {ρ : Slots} {w : WE} {k : Op → Slots → Prop}  : opd (.emp ) w (z :: ρ) k = (w (z :: ρ) fun r ρ' => k (.val r.d) ρ') := propext Iff.rfl
theorem s_ret_emp {z : Sl} {ρ : Slots}  {n1 : Slots → Prop} {n2 : RV → Slots → Prop} {n3 n4 : Slots → Prop} : TL.wpS G C (.ret (.emp )) (z :: ρ) ⟨n1, n2, n3, n4⟩ = (TL.wpE G C (.emp ) (z :: ρ) n2) := by
  simp only [TL.wpS] <;> first | done | exact propext Iff.rfl
theorem o_rvs {z : Sl} {ρ : Slots} {w : WE} {k : Op → Slots → Prop} {a : CE} : opd (.rvs a) w (z :: ρ) k = (w (z :: ρ) fun r ρ' => k (.val r.d) ρ') := propext Iff.rfl
theorem s_ret_rvs {z : Sl} {ρ : Slots} {a : CE} {n1 : Slots → Prop} {n2 : RV → Slots → Prop} {n3 n4 : Slots → Prop} : TL.wpS G C (.ret (.rvs a)) (z :: ρ) ⟨n1, n2, n3, n4⟩ = (TL.wpE G C (.rvs a) (z :: ρ) n2) := by
  simp only [TL.wpS] <;> first | done | exact propext Iff.rfl
theorem o_met {z : Sl} {ρ : Slots} {w : WE} {k : Op → Slots → Prop} {m : M1} {a : CE} {b : CE} : opd (.met m a b) w (z :: ρ) k = (w (z :: ρ) fun r ρ' => k (.val r.d) ρ') := propext Iff.rfl
theorem s_ret_met {z : Sl} {ρ : Slots} {m : M1} {a : CE} {b : CE} {n1 : Slots → Prop} {n2 : RV → Slots → Prop} {n3 n4 : Slots → Prop} : TL.wpS G C (.ret (.met m a b)) (z :: ρ) ⟨n1, n2, n3, n4⟩ = (TL.wpE G C (.met m a b) (z :: ρ) n2) := by
  simp only [TL.wpS] <;> first | done | exact propext Iff.rfl
theorem o_lit {z : Sl} {ρ : Slots} {w : WE} {k : Op → Slots → Prop} {d : D} : opd (.lit d) w (z :: ρ) k = (w (z :: ρ) fun r ρ' => k (.val r.d) ρ') := propext Iff.rfl
theorem s_ret_lit {z : Sl} {ρ : Slots} {d : D} {n1 : Slots → Prop} {n2 : RV → Slots → Prop} {n3 n4 : Slots → Prop} : TL.wpS G C (.ret (.lit d)) (z :: ρ) ⟨n1, n2, n3, n4⟩ = (TL.wpE G C (.lit d) (z :: ρ) n2) := by
  simp only [TL.wpS] <;> first | done | exact propext Iff.rfl
theorem o_glb {z : Sl} {ρ : Slots} {w : WE} {k : Op → Slots → Prop} {x : String} : opd (.glb x) w (z :: ρ) k = (w (z :: ρ) fun r ρ' => k (.val r.d) ρ') := propext Iff.rfl
theorem s_ret_glb {z : Sl} {ρ : Slots} {x : String} {n1 : Slots → Prop} {n2 : RV → Slots → Prop} {n3 n4 : Slots → Prop} : TL.wpS G C (.ret (.glb x)) (z :: ρ) ⟨n1, n2, n3, n4⟩ = (TL.wpE G C (.glb x) (z :: ρ) n2) := by
  simp only [TL.wpS] <;> first | done | exact propext Iff.rfl
theorem o_tup {z : Sl} {ρ : Slots} {w : WE} {k : Op → Slots → Prop} {es : CEs} : opd (.tup es) w (z :: ρ) k = (w (z :: ρ) fun r ρ' => k (.val r.d) ρ') := propext Iff.rfl
theorem s_ret_tup {z : Sl} {ρ : Slots} {es : CEs} {n1 : Slots → Prop} {n2 : RV → Slots → Prop} {n3 n4 : Slots → Prop} : TL.wpS G C (.ret (.tup es)) (z :: ρ) ⟨n1, n2, n3, n4⟩ = (TL.wpE G C (.tup es) (z :: ρ) n2) := by
  simp only [TL.wpS] <;> first | done | exact propext Iff.rfl
theorem o_lst {z : Sl} {ρ : Slots} {w : WE} {k : Op → Slots → Prop} {es : CEs} : opd (.lst es) w (z :: ρ) k = (w (z :: ρ) fun r ρ' => k (.val r.d) ρ') := propext Iff.rfl
theorem s_ret_lst {z : Sl} {ρ : Slots} {es : CEs} {n1 : Slots → Prop} {n2 : RV → Slots → Prop} {n3 n4 : Slots → Prop} : TL.wpS G C (.ret (.lst es)) (z :: ρ) ⟨n1, n2, n3, n4⟩ = (TL.wpE G C (.lst es) (z :: ρ) n2) := by
  simp only [TL.wpS] <;> first | done | exact propext Iff.rfl
theorem o_bin {z : Sl} {ρ : Slots} {w : WE} {k : Op → Slots → Prop} {o : PySem.Operator} {a : CE} {b : CE} : opd (.bin o a b) w (z :: ρ) k = (w (z :: ρ) fun r ρ' => k (.val r.d) ρ') := propext Iff.rfl
theorem s_ret_bin {z : Sl} {ρ : Slots} {o : PySem.Operator} {a : CE} {b : CE} {n1 : Slots → Prop} {n2 : RV → Slots → Prop} {n3 n4 : Slots → Prop} : TL.wpS G C (.ret (.bin o a b)) (z :: ρ) ⟨n1, n2, n3, n4⟩ = (TL.wpE G C (.bin o a b) (z :: ρ) n2) := by
  simp only [TL.wpS] <;> first | done | exact propext Iff.rfl
theorem o_neg {z : Sl} {ρ : Slots} {w : WE} {k : Op → Slots → Prop} {a : CE} : opd (.neg a) w (z :: ρ) k = (w (z :: ρ) fun r ρ' => k (.val r.d) ρ') := propext Iff.rfl
theorem s_ret_neg {z : Sl} {ρ : Slots} {a : CE} {n1 : Slots → Prop} {n2 : RV → Slots → Prop} {n3 n4 : Slots → Prop} : TL.wpS G C (.ret (.neg a)) (z :: ρ) ⟨n1, n2, n3, n4⟩ = (TL.wpE G C (.neg a) (z :: ρ) n2) := by
  simp only [TL.wpS] <;> first | done | exact propext Iff.rfl
theorem o_nt {z : Sl} {ρ : Slots} {w : WE} {k : Op → Slots → Prop} {a : CE} : opd (.nt a) w (z :: ρ) k = (w (z :: ρ) fun r ρ' => k (.val r.d) ρ') := propext Iff.rfl
theorem s_ret_nt {z : Sl} {ρ : Slots} {a : CE} {n1 : Slots → Prop} {n2 : RV → Slots → Prop} {n3 n4 : Slots → Prop} : TL.wpS G C (.ret (.nt a)) (z :: ρ) ⟨n1, n2, n3, n4⟩ = (TL.wpE G C (.nt a) (z :: ρ) n2) := by
  simp only [TL.wpS] <;> first | done | exact propext Iff.rfl
theorem o_cmp {z : Sl} {ρ : Slots} {w : WE} {k : Op → Slots → Prop} {o : PySem.CmpOp} {a : CE} {b : CE} : opd (.cmp o a b) w (z :: ρ) k = (w (z :: ρ) fun r ρ' => k (.val r.d) ρ') := propext Iff.rfl
theorem s_ret_cmp {z : Sl} {ρ : Slots} {o : PySem.CmpOp} {a : CE} {b : CE} {n1 : Slots → Prop} {n2 : RV → Slots → Prop} {n3 n4 : Slots → Prop} : TL.wpS G C (.ret (.cmp o a b)) (z :: ρ) ⟨n1, n2, n3, n4⟩ = (TL.wpE G C (.cmp o a b) (z :: ρ) n2) := by
  simp only [TL.wpS] <;> first | done | exact propext Iff.rfl
theorem o_chn {z : Sl} {ρ : Slots} {w : WE} {k : Op → Slots → Prop} {o : PySem.CmpOp} {o' : PySem.CmpOp} {a : CE} {b : CE} {c : CE} : opd (.chn o o' a b c) w (z :: ρ) k = (w (z :: ρ) fun r ρ' => k (.val r.d) ρ') := propext Iff.rfl
theorem s_ret_chn {z : Sl} {ρ : Slots} {o : PySem.CmpOp} {o' : PySem.CmpOp} {a : CE} {b : CE} {c : CE} {n1 : Slots → Prop} {n2 : RV → Slots → Prop} {n3 n4 : Slots → Prop} : TL.wpS G C (.ret (.chn o o' a b c)) (z :: ρ) ⟨n1, n2, n3, n4⟩ = (TL.wpE G C (.chn o o' a b c) (z :: ρ) n2) := by
  simp only [TL.wpS] <;> first | done | exact propext Iff.rfl
theorem o_and {z : Sl} {ρ : Slots} {w : WE} {k : Op → Slots → Prop} {a : CE} {b : CE} : opd (.and a b) w (z :: ρ) k = (w (z :: ρ) fun r ρ' => k (.val r.d) ρ') := propext Iff.rfl
theorem s_ret_and {z : Sl} {ρ : Slots} {a : CE} {b : CE} {n1 : Slots → Prop} {n2 : RV → Slots → Prop} {n3 n4 : Slots → Prop} : TL.wpS G C (.ret (.and a b)) (z :: ρ) ⟨n1, n2, n3, n4⟩ = (TL.wpE G C (.and a b) (z :: ρ) n2) := by
  simp only [TL.wpS] <;> first | done | exact propext Iff.rfl
theorem o_or {z : Sl} {ρ : Slots} {w : WE} {k : Op → Slots → Prop} {a : CE} {b : CE} : opd (.or a b) w (z :: ρ) k = (w (z :: ρ) fun r ρ' => k (.val r.d) ρ') := propext Iff.rfl
theorem s_ret_or {z : Sl} {ρ : Slots} {a : CE} {b : CE} {n1 : Slots → Prop} {n2 : RV → Slots → Prop} {n3 n4 : Slots → Prop} : TL.wpS G C (.ret (.or a b)) (z :: ρ) ⟨n1, n2, n3, n4⟩ = (TL.wpE G C (.or a b) (z :: ρ) n2) := by
  simp only [TL.wpS] <;> first | done | exact propext Iff.rfl
theorem o_ife {z : Sl} {ρ : Slots} {w : WE} {k : Op → Slots → Prop} {t : CT} {a : CE} {b : CE} : opd (.ife t a b) w (z :: ρ) k = (w (z :: ρ) fun r ρ' => k (.val r.d) ρ') := propext Iff.rfl
theorem s_ret_ife {z : Sl} {ρ : Slots} {t : CT} {a : CE} {b : CE} {n1 : Slots → Prop} {n2 : RV → Slots → Prop} {n3 n4 : Slots → Prop} : TL.wpS G C (.ret (.ife t a b)) (z :: ρ) ⟨n1, n2, n3, n4⟩ = (TL.wpE G C (.ife t a b) (z :: ρ) n2) := by
  simp only [TL.wpS] <;> first | done | exact propext Iff.rfl
theorem o_idx {z : Sl} {ρ : Slots} {w : WE} {k : Op → Slots → Prop} {a : CE} {b : CE} : opd (.idx a b) w (z :: ρ) k = (w (z :: ρ) fun r ρ' => k (.val r.d) ρ') := propext Iff.rfl
theorem s_ret_idx {z : Sl} {ρ : Slots} {a : CE} {b : CE} {n1 : Slots → Prop} {n2 : RV → Slots → Prop} {n3 n4 : Slots → Prop} : TL.wpS G C (.ret (.idx a b)) (z :: ρ) ⟨n1, n2, n3, n4⟩ = (TL.wpE G C (.idx a b) (z :: ρ) n2) := by
  simp only [TL.wpS] <;> first | done | exact propext Iff.rfl
theorem o_slc {z : Sl} {ρ : Slots} {w : WE} {k : Op → Slots → Prop} {a : CE} {b : CO} {c : CO} : opd (.slc a b c) w (z :: ρ) k = (w (z :: ρ) fun r ρ' => k (.val r.d) ρ') := propext Iff.rfl
theorem s_ret_slc {z : Sl} {ρ : Slots} {a : CE} {b : CO} {c : CO} {n1 : Slots → Prop} {n2 : RV → Slots → Prop} {n3 n4 : Slots → Prop} : TL.wpS G C (.ret (.slc a b c)) (z :: ρ) ⟨n1, n2, n3, n4⟩ = (TL.wpE G C (.slc a b c) (z :: ρ) n2) := by
  simp only [TL.wpS] <;> first | done | exact propext Iff.rfl
theorem o_call {z : Sl} {ρ : Slots} {w : WE} {k : Op → Slots → Prop} {f : String} {es : CEs} : opd (.call f es) w (z :: ρ) k = (w (z :: ρ) fun r ρ' => k (.val r.d) ρ') := propext Iff.rfl
theorem s_ret_call {z : Sl} {ρ : Slots} {f : String} {es : CEs} {n1 : Slots → Prop} {n2 : RV → Slots → Prop} {n3 n4 : Slots → Prop} : TL.wpS G C (.ret (.call f es)) (z :: ρ) ⟨n1, n2, n3, n4⟩ = (TL.wpE G C (.call f es) (z :: ρ) n2) := by
  simp only [TL.wpS] <;> first | done | exact propext Iff.rfl
theorem o_pcall {z : Sl} {ρ : Slots} {w : WE} {k : Op → Slots → Prop} {f : String} {i : Nat} {es : CEs} : opd (.pcall f i es) w (z :: ρ) k = (w (z :: ρ) fun r ρ' => k (.val r.d) ρ') := propext Iff.rfl
theorem s_ret_pcall {z : Sl} {ρ : Slots} {f : String} {i : Nat} {es : CEs} {n1 : Slots → Prop} {n2 : RV → Slots → Prop} {n3 n4 : Slots → Prop} : TL.wpS G C (.ret (.pcall f i es)) (z :: ρ) ⟨n1, n2, n3, n4⟩ = (TL.wpE G C (.pcall f i es) (z :: ρ) n2) := by
  simp only [TL.wpS] <;> first | done | exact propext Iff.rfl
theorem o_bl1 {z : Sl} {ρ : Slots} {w : WE} {k : Op → Slots → Prop} {b : B1} {a : CE} : opd (.bl1 b a) w (z :: ρ) k = (w (z :: ρ) fun r ρ' => k (.val r.d) ρ') := propext Iff.rfl
theorem s_ret_bl1 {z : Sl} {ρ : Slots} {b : B1} {a : CE} {n1 : Slots → Prop} {n2 : RV → Slots → Prop} {n3 n4 : Slots → Prop} : TL.wpS G C (.ret (.bl1 b a)) (z :: ρ) ⟨n1, n2, n3, n4⟩ = (TL.wpE G C (.bl1 b a) (z :: ρ) n2) := by
  simp only [TL.wpS] <;> first | done | exact propext Iff.rfl
theorem o_bl2 {z : Sl} {ρ : Slots} {w : WE} {k : Op → Slots → Prop} {b : B2} {a : CE} {c : CE} : opd (.bl2 b a c) w (z :: ρ) k = (w (z :: ρ) fun r ρ' => k (.val r.d) ρ') := propext Iff.rfl
theorem s_ret_bl2 {z : Sl} {ρ : Slots} {b : B2} {a : CE} {c : CE} {n1 : Slots → Prop} {n2 : RV → Slots → Prop} {n3 n4 : Slots → Prop} : TL.wpS G C (.ret (.bl2 b a c)) (z :: ρ) ⟨n1, n2, n3, n4⟩ = (TL.wpE G C (.bl2 b a c) (z :: ρ) n2) := by
  simp only [TL.wpS] <;> first | done | exact propext Iff.rfl
theorem o_isi {z : Sl} {ρ : Slots} {w : WE} {k : Op → Slots → Prop} {a : CE} {ts : List String} : opd (.isi a ts) w (z :: ρ) k = (w (z :: ρ) fun r ρ' => k (.val r.d) ρ') := propext Iff.rfl
theorem s_ret_isi {z : Sl} {ρ : Slots} {a : CE} {ts : List String} {n1 : Slots → Prop} {n2 : RV → Slots → Prop} {n3 n4 : Slots → Prop} : TL.wpS G C (.ret (.isi a ts)) (z :: ρ) ⟨n1, n2, n3, n4⟩ = (TL.wpE G C (.isi a ts) (z :: ρ) n2) := by
  simp only [TL.wpS] <;> first | done | exact propext Iff.rfl
theorem o_pop {z : Sl} {ρ : Slots} {w : WE} {k : Op → Slots → Prop} {i : Nat} : opd (.pop i) w (z :: ρ) k = (w (z :: ρ) fun r ρ' => k (.val r.d) ρ') := propext Iff.rfl
theorem s_ret_pop {z : Sl} {ρ : Slots} {i : Nat} {n1 : Slots → Prop} {n2 : RV → Slots → Prop} {n3 n4 : Slots → Prop} : TL.wpS G C (.ret (.pop i)) (z :: ρ) ⟨n1, n2, n3, n4⟩ = (TL.wpE G C (.pop i) (z :: ρ) n2) := by
  simp only [TL.wpS] <;> first | done | exact propext Iff.rfl
theorem o_lc {z : Sl} {ρ : Slots} {w : WE} {k : Op → Slots → Prop} {e : CE} {t : TG} {it : IT} {c : CTO} {own : List Nat} : opd (.lc e t it c own) w (z :: ρ) k = (w (z :: ρ) fun r ρ' => k (.val r.d) ρ') := propext Iff.rfl
theorem s_ret_lc {z : Sl} {ρ : Slots} {e : CE} {t : TG} {it : IT} {c : CTO} {own : List Nat} {n1 : Slots → Prop} {n2 : RV → Slots → Prop} {n3 n4 : Slots → Prop} : TL.wpS G C (.ret (.lc e t it c own)) (z :: ρ) ⟨n1, n2, n3, n4⟩ = (TL.wpE G C (.lc e t it c own) (z :: ρ) n2) := by
  simp only [TL.wpS] <;> first | done | exact propext Iff.rfl
theorem o_lc2 {z : Sl} {ρ : Slots} {w : WE} {k : Op → Slots → Prop} {e : CE} {t : TG} {it : IT} {c : CTO} {t1 : TG} {it1 : IT} {c1 : CTO} {own : List Nat} {own1 : List Nat} : opd (.lc2 e t it c t1 it1 c1 own own1) w (z :: ρ) k = (w (z :: ρ) fun r ρ' => k (.val r.d) ρ') := propext Iff.rfl
theorem s_ret_lc2 {z : Sl} {ρ : Slots} {e : CE} {t : TG} {it : IT} {c : CTO} {t1 : TG} {it1 : IT} {c1 : CTO} {own : List Nat} {own1 : List Nat} {n1 : Slots → Prop} {n2 : RV → Slots → Prop} {n3 n4 : Slots → Prop} : TL.wpS G C (.ret (.lc2 e t it c t1 it1 c1 own own1)) (z :: ρ) ⟨n1, n2, n3, n4⟩ = (TL.wpE G C (.lc2 e t it c t1 it1 c1 own own1) (z :: ρ) n2) := by
  simp only [TL.wpS] <;> first | done | exact propext Iff.rfl
theorem o_var_ {z : Sl} {ρ : Slots} {w : WE} {k : Op → Slots → Prop} {i : Nat} : opd (.var i) w (z :: ρ) k = (lkS (z :: ρ)[i]? (fun _ => True) ∧ k (.slot i) (z :: ρ)) := propext Iff.rfl
theorem s_retv_ {z : Sl} {ρ : Slots} {i : Nat} {n1 : Slots → Prop} {n2 : RV → Slots → Prop} {n3 n4 : Slots → Prop} : TL.wpS G C (.ret (.var i)) (z :: ρ) ⟨n1, n2, n3, n4⟩ = (wv (z :: ρ)[i]? (fun d => n2 (.fz d) (z :: ρ)) (fun ds => n2 (.own ds) ((z :: ρ).set i .un))) := by
  simp only [TL.wpS, wv]
  generalize (z :: ρ)[i]? = o
  cases o with
  | none => exact propext Iff.rfl
  | some y => cases y <;> exact propext Iff.rfl
theorem l_val {ρ : Slots} {d : D} {k : D → Prop} : lk ρ (.val d) k = (k d) := propext Iff.rfl
theorem l_slot {z : Sl} {ρ : Slots} {i : Nat} {k : D → Prop} : lk (z :: ρ) (.slot i) k = (lkS (z :: ρ)[i]? k) := propext Iff.rfl
theorem tg_fz {z : Sl} {ρ : Slots} {i : Nat} {d : D} {k : Slots → Prop} : wpTG (.var i) (.fz d) (z :: ρ) k = (canSet (z :: ρ) i ∧ k ((z :: ρ).set i (.fz d))) := propext Iff.rfl
theorem tg_own {z : Sl} {ρ : Slots} {i : Nat} {d : List D} {k : Slots → Prop} : wpTG (.var i) (.own d) (z :: ρ) k = (canSet (z :: ρ) i ∧ k ((z :: ρ).set i (.own d))) := propext Iff.rfl
theorem tg_tup {z : Sl} {ρ : Slots} {ts : TGs} {ds : List D} {k : Slots → Prop} : wpTG (.tup ts) (.fz (.tuple ds)) (z :: ρ) k = (wpTGs ts ds (z :: ρ) k) := by
  simp only [wpTG] <;> first | done | exact propext Iff.rfl
theorem tg_nil {z : Sl} {ρ : Slots} {k : Slots → Prop} : wpTGs .nil [] (z :: ρ) k = (k (z :: ρ)) := by
  simp only [wpTGs, true_and] <;> first | done | exact propext Iff.rfl
theorem tg_cons {z : Sl} {ρ : Slots} {t : TG} {ts : TGs} {d : D} {ds : List D} {k : Slots → Prop} : wpTGs (.cons t ts) (d :: ds) (z :: ρ) k = (wpTG t (.fz d) (z :: ρ) fun ρ' => wpTGs ts ds ρ' k) := by
  simp only [wpTGs] <;> first | done | exact propext Iff.rfl
theorem wv_fz {d : D} {ρ : Slots} {A : D → Prop} {B : List D → Prop} : wv (Sl.fz d :: ρ)[0]? A B = (A d) := propext Iff.rfl
theorem wv_own {d : List D} {ρ : Slots} {A : D → Prop} {B : List D → Prop} : wv (Sl.own d :: ρ)[0]? A B = (B d) := propext Iff.rfl
theorem wv_s {z : Sl} {ρ : Slots} {i : Nat} {A : D → Prop} {B : List D → Prop} : wv (z :: ρ)[i + 1]? A B = (wv ρ[i]? A B) := propext Iff.rfl
theorem lk_fz {d : D} {ρ : Slots} {k : D → Prop} : lkS (Sl.fz d :: ρ)[0]? k = (k d) := propext Iff.rfl
theorem lk_own {d : List D} {ρ : Slots} {k : D → Prop} : lkS (Sl.own d :: ρ)[0]? k = (k (.list d)) := propext Iff.rfl
theorem lk_bor {d : List D} {ρ : Slots} {k : D → Prop} : lkS (Sl.bor d :: ρ)[0]? k = (k (.list d)) := propext Iff.rfl
theorem lk_s {z : Sl} {ρ : Slots} {i : Nat} {k : D → Prop} : lkS (z :: ρ)[i + 1]? k = (lkS ρ[i]? k) := propext Iff.rfl
theorem cs_s {z : Sl} {ρ : Slots} {i : Nat} : canSet (z :: ρ) (i + 1) = (canSet ρ i) := propext Iff.rfl
theorem cs_un {ρ : Slots} : canSet (.un :: ρ) 0 = (True) := propext Iff.rfl
theorem cs_fz {d : D} {ρ : Slots} : canSet (.fz d :: ρ) 0 = (True) := propext Iff.rfl
theorem cs_own {d : List D} {ρ : Slots} : canSet (.own d :: ρ) 0 = (True) := propext Iff.rfl
theorem hd_own {d : List D} {ρ : Slots} {k : List D → Prop} : heldS (.own d :: ρ) 0 k = (k d) := propext Iff.rfl
theorem hd_bor {d : List D} {ρ : Slots} {k : List D → Prop} : heldS (.bor d :: ρ) 0 k = (k d) := propext Iff.rfl
theorem hd_s {z : Sl} {ρ : Slots} {i : Nat} {k : List D → Prop} : heldS (z :: ρ) (i + 1) k = (heldS ρ i k) := propext Iff.rfl
theorem sh_own {d e : List D} {ρ : Slots} : setH (.own d :: ρ) 0 e = .own e :: ρ := by unfold setH; simp
theorem sh_bor {d e : List D} {ρ : Slots} : setH (.bor d :: ρ) 0 e = .bor e :: ρ := by unfold setH; simp
theorem sh_s {z : Sl} {e : List D} {ρ : Slots} {i : Nat} : setH (z :: ρ) (i + 1) e = z :: setH ρ i e := by
  unfold setH
  rw [List.getElem?_cons_succ]
  generalize ρ[i]? = o
  cases o with
  | none => simp
  | some y => cases y <;> simp
theorem st_0 {z y : Sl} {ρ : Slots} : (z :: ρ).set 0 y = y :: ρ := by rw [List.set_cons_zero]
theorem st_s {z y : Sl} {ρ : Slots} {i : Nat} : (z :: ρ).set (i + 1) y = z :: ρ.set i y := by rw [List.set_cons_succ]
theorem fr_nil {ρ : Slots} : freeS ρ [] = True := by simp [freeS]
theorem fr_cons {ρ : Slots} {i : Nat} {is : List Nat} : freeS ρ (i :: is) = ((ρ.getD i .un).held = false ∧ freeS ρ is) := by simp [freeS]
theorem wp_nil {ρ : Slots} : wipeS ρ [] = ρ := by simp only [wipeS]
theorem wp_cons {ρ : Slots} {i : Nat} {is : List Nat} : wipeS ρ (i :: is) = (wipeS ρ is).set i .un := by simp only [wipeS]
theorem bk_nil {ρ ρ' : Slots} : backS ρ ρ' [] = ρ' := by simp only [backS]
theorem bk_cons {ρ ρ' : Slots} {i : Nat} {is : List Nat} : backS ρ ρ' (i :: is) = (backS ρ ρ' is).set i (ρ.getD i .un) := by simp only [backS]
theorem b_addI {i j : Int} {Q : RV → Prop} : wpBin .Add (.int i) (.int j) Q = (Q (.fz (.int (i + j)))) := propext Iff.rfl
theorem b_subI {i j : Int} {Q : RV → Prop} : wpBin .Sub (.int i) (.int j) Q = (Q (.fz (.int (i - j)))) := propext Iff.rfl
theorem b_mulI {i j : Int} {Q : RV → Prop} : wpBin .Mult (.int i) (.int j) Q = (TL.MulOk i j ∧ Q (.fz (.int (i * j)))) := propext Iff.rfl
theorem b_divI {i j : Int} {Q : RV → Prop} : wpBin .FloorDiv (.int i) (.int j) Q = (DivOk j ∧ Q (.fz (.int (i.fdiv j)))) := propext Iff.rfl
theorem b_modI {i j : Int} {Q : RV → Prop} : wpBin .Mod (.int i) (.int j) Q = (j ≠ 0 ∧ Q (.fz (.int (i.fmod j)))) := propext Iff.rfl
theorem b_powI {i j : Int} {Q : RV → Prop} : wpBin .Pow (.int i) (.int j) Q = (PowOk i j ∧ Q (.fz (.int (i ^ j.toNat)))) := propext Iff.rfl
theorem b_addS {a b : PySem.Str} {Q : RV → Prop} : wpBin .Add (.str a) (.str b) Q = (a.length + b.length ≤ sizeLine ∧ Q (.fz (.str (a ++ b)))) := propext Iff.rfl
theorem b_addT {a b : List D} {Q : RV → Prop} : wpBin .Add (.tuple a) (.tuple b) Q = (a.length + b.length ≤ sizeLine ∧ Q (.fz (.tuple (a ++ b)))) := propext Iff.rfl
theorem b_addL {a b : List D} {Q : RV → Prop} : wpBin .Add (.list a) (.list b) Q = (a.length + b.length ≤ sizeLine ∧ Q (.own (a ++ b))) := propext Iff.rfl
theorem b_mulL {a : List D} {k : Int} {Q : RV → Prop} : wpBin .Mult (.list a) (.int k) Q = (-(2 ^ 63) ≤ k ∧ k < 2 ^ 63 ∧ a.length * k.toNat ≤ sizeLine ∧ Q (.own (List.replicate k.toNat a).flatten)) := propext Iff.rfl
theorem b_mulT {a : List D} {k : Int} {Q : RV → Prop} : wpBin .Mult (.tuple a) (.int k) Q = (0 ≤ k ∧ k ≤ 1000 ∧ a.length ≤ 1000 ∧ Q (.fz (.tuple (List.replicate k.toNat a).flatten))) := propext Iff.rfl
theorem a_add {i j : Int} {Q : RV → Prop} : wpAug .Add (.int i) (.int j) Q = (Q (.fz (.int (i + j)))) := propext Iff.rfl
theorem a_sub {i j : Int} {Q : RV → Prop} : wpAug .Sub (.int i) (.int j) Q = (Q (.fz (.int (i - j)))) := propext Iff.rfl
theorem a_mul {i j : Int} {Q : RV → Prop} : wpAug .Mult (.int i) (.int j) Q = (TL.MulOk i j ∧ Q (.fz (.int (i * j)))) := propext Iff.rfl
theorem c_Eq_int {i j : Int} {Q : D → Prop} : wpCmp .Eq (.int i) (.int j) Q = (Q (.bool (decide (i = j)))) := by
  show (EqOk _ _ ∧ Q _) = _
  rw [eqv_int]; exact propext (and_iff_right (.inr ⟨rfl, rfl⟩))
theorem c_Eq_bool {i j : Bool} {Q : D → Prop} : wpCmp .Eq (.bool i) (.bool j) Q = (Q (.bool (decide (i = j)))) := by
  show (EqOk _ _ ∧ Q _) = _
  rw [eqv_bool]; exact propext (and_iff_right (.inr ⟨rfl, rfl⟩))
theorem c_Eq_str {i j : PySem.Str} {Q : D → Prop} : wpCmp .Eq (.str i) (.str j) Q = (Q (.bool (decide (i = j)))) := by
  show (EqOk _ _ ∧ Q _) = _
  rw [eqv_str]; exact propext (and_iff_right (.inl ⟨rfl, rfl⟩))
theorem c_Eq_tuple {a b : List D} {Q : D → Prop} : wpCmp .Eq (.tuple a) (.tuple b) Q = (EqOk (.tuple a) (.tuple b) ∧ Q (.bool ((PySem.PyData.tuple a).eqv (.tuple b)))) := propext Iff.rfl
theorem c_Eq_list {a b : List D} {Q : D → Prop} : wpCmp .Eq (.list a) (.list b) Q = (EqOk (.list a) (.list b) ∧ Q (.bool ((PySem.PyData.list a).eqv (.list b)))) := propext Iff.rfl
theorem c_NotEq_int {i j : Int} {Q : D → Prop} : wpCmp .NotEq (.int i) (.int j) Q = (Q (.bool (!decide (i = j)))) := by
  show (EqOk _ _ ∧ Q _) = _
  rw [eqv_int]; exact propext (and_iff_right (.inr ⟨rfl, rfl⟩))
theorem c_NotEq_bool {i j : Bool} {Q : D → Prop} : wpCmp .NotEq (.bool i) (.bool j) Q = (Q (.bool (!decide (i = j)))) := by
  show (EqOk _ _ ∧ Q _) = _
  rw [eqv_bool]; exact propext (and_iff_right (.inr ⟨rfl, rfl⟩))
theorem c_NotEq_str {i j : PySem.Str} {Q : D → Prop} : wpCmp .NotEq (.str i) (.str j) Q = (Q (.bool (!decide (i = j)))) := by
  show (EqOk _ _ ∧ Q _) = _
  rw [eqv_str]; exact propext (and_iff_right (.inl ⟨rfl, rfl⟩))
theorem c_NotEq_tuple {a b : List D} {Q : D → Prop} : wpCmp .NotEq (.tuple a) (.tuple b) Q = (EqOk (.tuple a) (.tuple b) ∧ Q (.bool (!(PySem.PyData.tuple a).eqv (.tuple b)))) := propext Iff.rfl
theorem c_NotEq_list {a b : List D} {Q : D → Prop} : wpCmp .NotEq (.list a) (.list b) Q = (EqOk (.list a) (.list b) ∧ Q (.bool (!(PySem.PyData.list a).eqv (.list b)))) := propext Iff.rfl
theorem c_Lt {i j : Int} {Q : D → Prop} : wpCmp .Lt (.int i) (.int j) Q = (Q (.bool (decide (i < j)))) := propext Iff.rfl
theorem c_LtE {i j : Int} {Q : D → Prop} : wpCmp .LtE (.int i) (.int j) Q = (Q (.bool (decide (i ≤ j)))) := propext Iff.rfl
theorem c_Gt {i j : Int} {Q : D → Prop} : wpCmp .Gt (.int i) (.int j) Q = (Q (.bool (decide (j < i)))) := propext Iff.rfl
theorem c_GtE {i j : Int} {Q : D → Prop} : wpCmp .GtE (.int i) (.int j) Q = (Q (.bool (decide (j ≤ i)))) := propext Iff.rfl
theorem c_LtE_b {i j : Bool} {Q : D → Prop} : wpCmp .LtE (.bool i) (.bool j) Q = (Q (.bool (!i || j))) := propext Iff.rfl
theorem c_Is_b {i j : Bool} {Q : D → Prop} : wpCmp .Is (.bool i) (.bool j) Q = (Q (.bool (decide (i = j)))) := propext Iff.rfl
theorem c_Is_n {x : D} {Q : D → Prop} : wpCmp .Is x .none Q = (Q (.bool (isNone x))) := by
  cases x <;> exact propext Iff.rfl
theorem c_IsNot_b {i j : Bool} {Q : D → Prop} : wpCmp .IsNot (.bool i) (.bool j) Q = (Q (.bool (!decide (i = j)))) := propext Iff.rfl
theorem c_IsNot_n {x : D} {Q : D → Prop} : wpCmp .IsNot x .none Q = (Q (.bool (!isNone x))) := by
  cases x <;> exact propext Iff.rfl
theorem c_In_tuple {x : D} {ys : List D} {Q : D → Prop} : wpCmp .In x (.tuple ys) Q = (flatD x = true ∧ ys.all flatD = true ∧ Q (.bool (inD x ys))) := propext Iff.rfl
theorem c_In_list {x : D} {ys : List D} {Q : D → Prop} : wpCmp .In x (.list ys) Q = (flatD x = true ∧ ys.all flatD = true ∧ Q (.bool (inD x ys))) := propext Iff.rfl
theorem c_NotIn_tuple {x : D} {ys : List D} {Q : D → Prop} : wpCmp .NotIn x (.tuple ys) Q = (flatD x = true ∧ ys.all flatD = true ∧ Q (.bool (!inD x ys))) := propext Iff.rfl
theorem c_NotIn_list {x : D} {ys : List D} {Q : D → Prop} : wpCmp .NotIn x (.list ys) Q = (flatD x = true ∧ ys.all flatD = true ∧ Q (.bool (!inD x ys))) := propext Iff.rfl
theorem t_non {Q : Bool → Prop} : wpTru .none Q = (Q false) := propext Iff.rfl
theorem t_bl {b : Bool} {Q : Bool → Prop} : wpTru (.bool b) Q = (Q b) := propext Iff.rfl
theorem t_int {i : Int} {Q : Bool → Prop} : wpTru (.int i) Q = (Q (i != 0)) := propext Iff.rfl
theorem t_str {s : PySem.Str} {Q : Bool → Prop} : wpTru (.str s) Q = (s.length ≤ sizeLine ∧ Q ((s.length : Int) != 0)) := propext Iff.rfl
theorem t_lst {s : List D} {Q : Bool → Prop} : wpTru (.list s) Q = (Q (!s.isEmpty)) := propext Iff.rfl
theorem t_tup {s : List D} {Q : Bool → Prop} : wpTru (.tuple s) Q = (Q (!s.isEmpty)) := propext Iff.rfl
theorem i_lst {s : List D} {k : Int} {Q : D → Prop} : wpIdx (.list s) (.int k) Q = (∃ d, L2.atI s k = some d ∧ Q d) := propext Iff.rfl
theorem i_tup {s : List D} {k : Int} {Q : D → Prop} : wpIdx (.tuple s) (.int k) Q = (∃ d, L2.atI s k = some d ∧ Q d) := propext Iff.rfl
theorem sl_lst {s : List D} {l h : Option Int} {Q : RV → Prop} : wpSlc (.list s) l h Q = (Q (.own (cutD s l h))) := propext Iff.rfl
theorem sl_tup {s : List D} {l h : Option Int} {Q : RV → Prop} : wpSlc (.tuple s) l h Q = (Q (.fz (.tuple (cutD s l h)))) := propext Iff.rfl
theorem as_i {i : Int} {k : Int → Prop} : asInt (.int i) k = (k i) := propext Iff.rfl
theorem as_b {i : Bool} {k : Bool → Prop} : asBool (.bool i) k = (k i) := propext Iff.rfl
theorem it_l {s : List D} {k : List D → Prop} : itemsD (.list s) k = (k s) := propext Iff.rfl
theorem it_t {s : List D} {k : List D → Prop} : itemsD (.tuple s) k = (k s) := propext Iff.rfl
theorem ls_l {s : List D} {k : List D → Prop} : lstD (.list s) k = (k s) := propext Iff.rfl
theorem zp_n {x y : D} {k : List D → Prop} : zipD none x y k = (itemsD x fun xs => itemsD y fun ys => k (pairs xs ys)) := by
  simp [zipD]
theorem zp_f {x y : D} {k : List D → Prop} : zipD (some false) x y k = (itemsD x fun xs => itemsD y fun ys => k (pairs xs ys)) := by
  simp [zipD]
theorem zp_s {x y : D} {k : List D → Prop} : zipD (some true) x y k = (itemsD x fun xs => itemsD y fun ys => xs.length = ys.length ∧ k (pairs xs ys)) := by
  simp [zipD]
theorem rv_l {s : List D} {Q : RV → Prop} : wpRvs (.list s) Q = (Q (.own s.reverse)) := propext Iff.rfl
theorem rv_t {s : List D} {Q : RV → Prop} : wpRvs (.tuple s) Q = (Q (.fz (.tuple s.reverse))) := propext Iff.rfl
theorem m_sw {a b : PySem.Str} {Q : D → Prop} : wpM1 .sw (.str a) (.str b) Q = (Q (.bool (PySem.Txt.startswith a b))) := propext Iff.rfl
theorem m_ew {a b : PySem.Str} {Q : D → Prop} : wpM1 .ew (.str a) (.str b) Q = (Q (.bool (PySem.Txt.endswith a b))) := propext Iff.rfl
theorem m_ix {xs : List D} {y : D} {Q : D → Prop} : wpM1 .ix (.list xs) y Q = (flatD y = true ∧ xs.all flatD = true ∧ ∃ (j : Nat) (z : D), xs[j]? = some z ∧ PySem.PyData.eqv z y = true ∧ (∀ (m : Nat) (z' : D), m < j → xs[m]? = some z' → PySem.PyData.eqv z' y = false) ∧ Q (.int j)) := propext Iff.rfl
theorem m_ixd {xs : List D} {y : D} {Q : D → Prop} : wpM1 .ixd (.list xs) y Q = (SeqAt.shaped (.list xs) = true ∧ SeqAt.shaped y = true ∧ ∃ (j : Nat) (z : D), xs[j]? = some z ∧ PySem.PyData.eqv z y = true ∧ (∀ (m : Nat) (z' : D), m < j → xs[m]? = some z' → PySem.PyData.eqv z' y = false) ∧ Q (.int j)) := propext Iff.rfl
theorem tm_ixd {a : List D} : (tyD (.list a) = tyM .ixd) = (True) := by
  exact eq_true rfl
theorem tm_sw {a : PySem.Str} : (tyD (.str a) = tyM .sw) = (True) := by
  exact eq_true rfl
theorem tm_ew {a : PySem.Str} : (tyD (.str a) = tyM .ew) = (True) := by
  exact eq_true rfl
theorem tm_ix {a : List D} : (tyD (.list a) = tyM .ix) = (True) := by
  exact eq_true rfl
theorem c_Lt_t {a b : List D} {Q : D → Prop} : wpCmp .Lt (.tuple a) (.tuple b) Q = (a.all isInt = true ∧ b.all isInt = true ∧ Q (.bool (HT.lexLt (a.map intOf) (b.map intOf)))) := propext Iff.rfl
theorem f_lenL {s : List D} {Q : RV → Prop} : wpB1 .len (.list s) Q = (Q (.fz (.int s.length))) := propext Iff.rfl
theorem f_lenT {s : List D} {Q : RV → Prop} : wpB1 .len (.tuple s) Q = (Q (.fz (.int s.length))) := propext Iff.rfl
theorem f_lenS {s : PySem.Str} {Q : RV → Prop} : wpB1 .len (.str s) Q = (s.length ≤ sizeLine ∧ Q (.fz (.int s.length))) := propext Iff.rfl
theorem f_abs {i : Int} {Q : RV → Prop} : wpB1 .abs (.int i) Q = (Q (.fz (.int i.natAbs))) := propext Iff.rfl
theorem f_min {s : List D} {Q : RV → Prop} : wpB1 .min (.list s) Q = (s.all isInt = true ∧ s ≠ [] ∧ ∀ m : Int, .int m ∈ s → (∀ y, .int y ∈ s → m ≤ y) → Q (.fz (.int m))) := propext Iff.rfl
theorem f_max {s : List D} {Q : RV → Prop} : wpB1 .max (.list s) Q = (s.all isInt = true ∧ s ≠ [] ∧ ∀ m : Int, .int m ∈ s → (∀ y, .int y ∈ s → y ≤ m) → Q (.fz (.int m))) := propext Iff.rfl
theorem f_sum {s : List D} {Q : RV → Prop} : wpB1 .sum (.list s) Q = (s.all isInt = true ∧ Q (.fz (.int (s.map intOf).sum))) := propext Iff.rfl
theorem f_all {s : List D} {Q : RV → Prop} : wpB1 .all (.list s) Q = (s.all isBool = true ∧ Q (.fz (.bool ((s.map boolOf).all id)))) := propext Iff.rfl
theorem f_any {s : List D} {Q : RV → Prop} : wpB1 .any (.list s) Q = (s.all isBool = true ∧ Q (.fz (.bool ((s.map boolOf).any id)))) := propext Iff.rfl
theorem f_sort {s : List D} {Q : RV → Prop} : wpB1 .sorted (.list s) Q = (s.all isInt = true ∧ Q (.own ((sortI (s.map intOf)).map .int))) := propext Iff.rfl
theorem f_ssetL {s : List D} {Q : RV → Prop} : wpB1 .sortset (.list s) Q = (s.all isInt = true ∧ s.length < 64 ∧ ∀ ms : List Int, ms.Pairwise (· < ·) → (∀ k, k ∈ ms ↔ k ∈ s.map intOf) → Q (.own (ms.map .int))) := propext Iff.rfl
theorem f_ssetT {s : List D} {Q : RV → Prop} : wpB1 .sortset (.tuple s) Q = (s.all isInt = true ∧ s.length < 64 ∧ ∀ ms : List Int, ms.Pairwise (· < ·) → (∀ k, k ∈ ms ↔ k ∈ s.map intOf) → Q (.own (ms.map .int))) := propext Iff.rfl
theorem f_trng {i : Int} {Q : RV → Prop} : wpB1 .tuprng (.int i) Q = (0 ≤ i ∧ i ≤ 1000 ∧ Q (.fz (.tuple ((List.range i.toNat).map fun j => .int (j : Nat))))) := propext Iff.rfl
theorem f_denL {s : List D} {Q : RV → Prop} : wpB1 .dctenum (.list s) Q = (s.length ≤ 1000 ∧ Q (.fz (.dict ((numsD 0 s.length).zip s)))) := propext Iff.rfl
theorem f_denT {s : List D} {Q : RV → Prop} : wpB1 .dctenum (.tuple s) Q = (s.length ≤ 1000 ∧ Q (.fz (.dict ((numsD 0 s.length).zip s)))) := propext Iff.rfl
theorem f_tupL {s : List D} {Q : RV → Prop} : wpB1 .tuple (.list s) Q = (Q (.fz (.tuple s))) := propext Iff.rfl
theorem f_tupT {s : List D} {Q : RV → Prop} : wpB1 .tuple (.tuple s) Q = (Q (.fz (.tuple s))) := propext Iff.rfl
theorem f_lstL {s : List D} {Q : RV → Prop} : wpB1 .list (.list s) Q = (Q (.own s)) := propext Iff.rfl
theorem f_lstT {s : List D} {Q : RV → Prop} : wpB1 .list (.tuple s) Q = (Q (.own s)) := propext Iff.rfl
theorem f_intI {i : Int} {Q : RV → Prop} : wpB1 .int (.int i) Q = (Q (.fz (.int i))) := propext Iff.rfl
theorem f_intB {k : Bool} {Q : RV → Prop} : wpB1 .int (.bool k) Q = (Q (.fz (.int (if k = true then 1 else 0)))) := propext Iff.rfl
theorem f_str {i : Int} {Q : RV → Prop} : wpB1 .str (.int i) Q = (i.natAbs.log2 < 1920 ∧ Q (.fz (.str (toString i)))) := propext Iff.rfl
theorem g_min {i j : Int} {Q : RV → Prop} : wpB2 .min (.int i) (.int j) Q = (Q (.fz (.int (if j < i then j else i)))) := propext Iff.rfl
theorem g_max {i j : Int} {Q : RV → Prop} : wpB2 .max (.int i) (.int j) Q = (Q (.fz (.int (if j > i then j else i)))) := propext Iff.rfl
theorem rd_fz {d : D} : RV.d (.fz d) = d := by cases d <;> simp only [RV.d]
theorem rd_own {d : List D} : RV.d (.own d) = .list d := by cases d <;> simp only [RV.d]
theorem rs_fz {d : D} : RV.sl (.fz d) = .fz d := by cases d <;> simp only [RV.sl]
theorem rs_own {d : List D} : RV.sl (.own d) = .own d := by cases d <;> simp only [RV.sl]
theorem ou_b {d : List D} {ρ : Slots} : outS (.bor d :: ρ) = d := by simp [outS]
theorem at_l0 {x0 : D} {xs : List D} {P : D → Prop} : (∃ d, L2.atI (x0 :: xs) 0 = some d ∧ P d) = P x0 := by
  rw [at_get (by decide) (by simp only [List.length_cons]; omega)]; rfl
theorem at_l1 {x0 x1 : D} {xs : List D} {P : D → Prop} : (∃ d, L2.atI (x0 :: x1 :: xs) 1 = some d ∧ P d) = P x1 := by
  rw [at_get (by decide) (by simp only [List.length_cons]; omega)]; rfl
theorem at_l2 {x0 x1 x2 : D} {xs : List D} {P : D → Prop} : (∃ d, L2.atI (x0 :: x1 :: x2 :: xs) 2 = some d ∧ P d) = P x2 := by
  rw [at_get (by decide) (by simp only [List.length_cons]; omega)]; rfl
theorem at_l3 {x0 x1 x2 x3 : D} {xs : List D} {P : D → Prop} : (∃ d, L2.atI (x0 :: x1 :: x2 :: x3 :: xs) 3 = some d ∧ P d) = P x3 := by
  rw [at_get (by decide) (by simp only [List.length_cons]; omega)]; rfl
theorem at_l4 {x0 x1 x2 x3 x4 : D} {xs : List D} {P : D → Prop} : (∃ d, L2.atI (x0 :: x1 :: x2 :: x3 :: x4 :: xs) 4 = some d ∧ P d) = P x4 := by
  rw [at_get (by decide) (by simp only [List.length_cons]; omega)]; rfl
theorem at_l5 {x0 x1 x2 x3 x4 x5 : D} {xs : List D} {P : D → Prop} : (∃ d, L2.atI (x0 :: x1 :: x2 :: x3 :: x4 :: x5 :: xs) 5 = some d ∧ P d) = P x5 := by
  rw [at_get (by decide) (by simp only [List.length_cons]; omega)]; rfl
theorem at_l6 {x0 x1 x2 x3 x4 x5 x6 : D} {xs : List D} {P : D → Prop} : (∃ d, L2.atI (x0 :: x1 :: x2 :: x3 :: x4 :: x5 :: x6 :: xs) 6 = some d ∧ P d) = P x6 := by
  rw [at_get (by decide) (by simp only [List.length_cons]; omega)]; rfl
theorem at_l7 {x0 x1 x2 x3 x4 x5 x6 x7 : D} {xs : List D} {P : D → Prop} : (∃ d, L2.atI (x0 :: x1 :: x2 :: x3 :: x4 :: x5 :: x6 :: x7 :: xs) 7 = some d ∧ P d) = P x7 := by
  rw [at_get (by decide) (by simp only [List.length_cons]; omega)]; rfl
theorem ix_l0 {n : Nat} {P : Nat → Prop} (h : 0 < n) : (∃ j, L2.ixN n 0 = some j ∧ P j) = P 0 := ix_at (by decide) (by omega)
theorem ix_l1 {n : Nat} {P : Nat → Prop} (h : 1 < n) : (∃ j, L2.ixN n 1 = some j ∧ P j) = P 1 := ix_at (by decide) (by omega)
theorem ix_l2 {n : Nat} {P : Nat → Prop} (h : 2 < n) : (∃ j, L2.ixN n 2 = some j ∧ P j) = P 2 := ix_at (by decide) (by omega)
theorem ix_l3 {n : Nat} {P : Nat → Prop} (h : 3 < n) : (∃ j, L2.ixN n 3 = some j ∧ P j) = P 3 := ix_at (by decide) (by omega)
theorem ix_l4 {n : Nat} {P : Nat → Prop} (h : 4 < n) : (∃ j, L2.ixN n 4 = some j ∧ P j) = P 4 := ix_at (by decide) (by omega)
theorem ix_l5 {n : Nat} {P : Nat → Prop} (h : 5 < n) : (∃ j, L2.ixN n 5 = some j ∧ P j) = P 5 := ix_at (by decide) (by omega)
theorem ix_l6 {n : Nat} {P : Nat → Prop} (h : 6 < n) : (∃ j, L2.ixN n 6 = some j ∧ P j) = P 6 := ix_at (by decide) (by omega)
theorem ix_l7 {n : Nat} {P : Nat → Prop} (h : 7 < n) : (∃ j, L2.ixN n 7 = some j ∧ P j) = P 7 := ix_at (by decide) (by omega)
theorem ix_l8 {n : Nat} {P : Nat → Prop} (h : 8 < n) : (∃ j, L2.ixN n 8 = some j ∧ P j) = P 8 := ix_at (by decide) (by omega)
theorem ix_l9 {n : Nat} {P : Nat → Prop} (h : 9 < n) : (∃ j, L2.ixN n 9 = some j ∧ P j) = P 9 := ix_at (by decide) (by omega)
theorem ix_l10 {n : Nat} {P : Nat → Prop} (h : 10 < n) : (∃ j, L2.ixN n 10 = some j ∧ P j) = P 10 := ix_at (by decide) (by omega)
theorem ix_l11 {n : Nat} {P : Nat → Prop} (h : 11 < n) : (∃ j, L2.ixN n 11 = some j ∧ P j) = P 11 := ix_at (by decide) (by omega)
theorem ix_l12 {n : Nat} {P : Nat → Prop} (h : 12 < n) : (∃ j, L2.ixN n 12 = some j ∧ P j) = P 12 := ix_at (by decide) (by omega)
end
theorem cs_h {s : Sl} {ρ : Slots} (h : s.held = false) : canSet (s :: ρ) 0 = True := by
  cases s with
  | un => exact cs_un
  | fz d => exact cs_fz
  | own d => exact cs_own
  | bor d => cases h
theorem cut_ok {G : String → Option D} {C : CallW} {s : CS} {ss : CSs} {ρ : Slots} {E : WEnds} (P : Slots → Prop) (h1 : ∀ E' : WEnds, (∀ ρ', P ρ' → E'.nx ρ') → E'.rt = E.rt → E'.bk = E.bk → E'.ct = E.ct → TL.wpS G C s ρ E') (h2 : ∀ ρ', P ρ' → TL.wpSs G C ss ρ' E) : TL.wpSs G C (.cons s ss) ρ E := by
  simp only [TL.wpSs]
  exact h1 _ h2 rfl rfl rfl
end TL
end
local macro_rules | `(tactic| walk_at "S") => `(tactic| simp only [↓TL.x_var, ↓TL.x_lit, ↓TL.x_glb, ↓TL.x_tup, ↓TL.x_lst, ↓TL.x_emp, ↓TL.x_rvs, ↓TL.x_met, ↓TL.x_dc1, ↓TL.x_dc2, ↓TL.x_bin, ↓TL.x_neg, ↓TL.x_nt, ↓TL.x_cmp, ↓TL.x_chn, ↓TL.x_and, ↓TL.x_or, ↓TL.x_ife, ↓TL.x_idx, ↓TL.x_slc, ↓TL.x_call, ↓TL.x_pcall, ↓TL.x_bl1, ↓TL.x_bl2, ↓TL.x_isi, ↓TL.x_pop, ↓TL.x_lc, ↓TL.x_lc2, ↓TL.x_nil, ↓TL.x_cons, ↓TL.x_no, ↓TL.x_so, ↓TL.x_tof, ↓TL.x_tand, ↓TL.x_tor, ↓TL.x_tnt, ↓TL.x_tite, ↓TL.x_ctno, ↓TL.x_ctso, ↓TL.x_iof, ↓TL.x_irng1, ↓TL.x_irng2, ↓TL.x_irng3, ↓TL.x_ienum, ↓TL.x_izip, ↓TL.x_irev, ↓TL.s_asg_, ↓TL.s_par_, ↓TL.s_sub_, ↓TL.s_aug_, ↓TL.s_swp_, ↓TL.s_augs_, ↓TL.s_subW, ↓TL.s_exp_, ↓TL.s_app_, ↓TL.s_ite_, ↓TL.s_for_, ↓TL.s_whl_, ↓TL.s_retN_, ↓TL.s_brk_, ↓TL.s_cnt_, ↓TL.s_pas_, ↓TL.ss_nil_, ↓TL.ss_cons_, ↓TL.o_dc1, ↓TL.s_ret_dc1, ↓TL.o_dc2, ↓TL.s_ret_dc2, ↓TL.o_emp, ↓TL.s_ret_emp, ↓TL.o_rvs, ↓TL.s_ret_rvs, ↓TL.o_met, ↓TL.s_ret_met, ↓TL.o_lit, ↓TL.s_ret_lit, ↓TL.o_glb, ↓TL.s_ret_glb, ↓TL.o_tup, ↓TL.s_ret_tup, ↓TL.o_lst, ↓TL.s_ret_lst, ↓TL.o_bin, ↓TL.s_ret_bin, ↓TL.o_neg, ↓TL.s_ret_neg, ↓TL.o_nt, ↓TL.s_ret_nt, ↓TL.o_cmp, ↓TL.s_ret_cmp, ↓TL.o_chn, ↓TL.s_ret_chn, ↓TL.o_and, ↓TL.s_ret_and, ↓TL.o_or, ↓TL.s_ret_or, ↓TL.o_ife, ↓TL.s_ret_ife, ↓TL.o_idx, ↓TL.s_ret_idx, ↓TL.o_slc, ↓TL.s_ret_slc, ↓TL.o_call, ↓TL.s_ret_call, ↓TL.o_pcall, ↓TL.s_ret_pcall, ↓TL.o_bl1, ↓TL.s_ret_bl1, ↓TL.o_bl2, ↓TL.s_ret_bl2, ↓TL.o_isi, ↓TL.s_ret_isi, ↓TL.o_pop, ↓TL.s_ret_pop, ↓TL.o_lc, ↓TL.s_ret_lc, ↓TL.o_lc2, ↓TL.s_ret_lc2, ↓TL.o_var_, ↓TL.s_retv_, ↓TL.l_val, ↓TL.l_slot, ↓TL.tg_fz, ↓TL.tg_own, ↓TL.tg_tup, ↓TL.tg_nil, ↓TL.tg_cons, ↓TL.wv_fz, ↓TL.wv_own, ↓TL.wv_s, ↓TL.lk_fz, ↓TL.lk_own, ↓TL.lk_bor, ↓TL.lk_s, ↓TL.cs_s, ↓TL.cs_un, ↓TL.cs_fz, ↓TL.cs_own, ↓TL.hd_own, ↓TL.hd_bor, ↓TL.hd_s, ↓TL.sh_own, ↓TL.sh_bor, ↓TL.sh_s, ↓TL.st_0, ↓TL.st_s, ↓TL.fr_nil, ↓TL.fr_cons, ↓TL.wp_nil, ↓TL.wp_cons, ↓TL.bk_nil, ↓TL.bk_cons, ↓TL.b_addI, ↓TL.b_subI, ↓TL.b_mulI, ↓TL.b_divI, ↓TL.b_modI, ↓TL.b_powI, ↓TL.b_addS, ↓TL.b_addT, ↓TL.b_addL, ↓TL.b_mulL, ↓TL.b_mulT, ↓TL.a_add, ↓TL.a_sub, ↓TL.a_mul, ↓TL.c_Eq_int, ↓TL.c_Eq_bool, ↓TL.c_Eq_str, ↓TL.c_Eq_tuple, ↓TL.c_Eq_list, ↓TL.c_NotEq_int, ↓TL.c_NotEq_bool, ↓TL.c_NotEq_str, ↓TL.c_NotEq_tuple, ↓TL.c_NotEq_list, ↓TL.c_Lt, ↓TL.c_LtE, ↓TL.c_Gt, ↓TL.c_GtE, ↓TL.c_LtE_b, ↓TL.c_Is_b, ↓TL.c_Is_n, ↓TL.c_IsNot_b, ↓TL.c_IsNot_n, ↓TL.c_In_tuple, ↓TL.c_In_list, ↓TL.c_NotIn_tuple, ↓TL.c_NotIn_list, ↓TL.t_non, ↓TL.t_bl, ↓TL.t_int, ↓TL.t_str, ↓TL.t_lst, ↓TL.t_tup, ↓TL.i_lst, ↓TL.i_tup, ↓TL.sl_lst, ↓TL.sl_tup, ↓TL.as_i, ↓TL.as_b, ↓TL.it_l, ↓TL.it_t, ↓TL.ls_l, ↓TL.zp_n, ↓TL.zp_f, ↓TL.zp_s, ↓TL.rv_l, ↓TL.rv_t, ↓TL.m_sw, ↓TL.m_ew, ↓TL.m_ix, ↓TL.m_ixd, ↓TL.tm_ixd, ↓TL.tm_sw, ↓TL.tm_ew, ↓TL.tm_ix, ↓TL.c_Lt_t, ↓TL.f_lenL, ↓TL.f_lenT, ↓TL.f_lenS, ↓TL.f_abs, ↓TL.f_min, ↓TL.f_max, ↓TL.f_sum, ↓TL.f_all, ↓TL.f_any, ↓TL.f_sort, ↓TL.f_ssetL, ↓TL.f_ssetT, ↓TL.f_trng, ↓TL.f_denL, ↓TL.f_denT, ↓TL.f_tupL, ↓TL.f_tupT, ↓TL.f_lstL, ↓TL.f_lstT, ↓TL.f_intI, ↓TL.f_intB, ↓TL.f_str, ↓TL.g_min, ↓TL.g_max, ↓TL.rd_fz, ↓TL.rd_own, ↓TL.rs_fz, ↓TL.rs_own, ↓TL.ou_b, ↓TL.at_l0, ↓TL.at_l1, ↓TL.at_l2, ↓TL.at_l3, ↓TL.at_l4, ↓TL.at_l5, ↓TL.at_l6, ↓TL.at_l7, ↓TL.ix_l0, ↓TL.ix_l1, ↓TL.ix_l2, ↓TL.ix_l3, ↓TL.ix_l4, ↓TL.ix_l5, ↓TL.ix_l6, ↓TL.ix_l7, ↓TL.ix_l8, ↓TL.ix_l9, ↓TL.ix_l10, ↓TL.ix_l11, ↓TL.ix_l12, TL.isStr, TL.flatD, TL.inD, TL.isiD, TL.tyD, TL.isNone, TL.eqv_int, TL.eqv_bool, TL.eqv_str, TL.sh_int, TL.sh_bool, TL.sz_le, TL.sz_lt, TL.Sl.held, List.map_cons, List.map_nil, List.cons_append, List.nil_append, List.append_nil, List.length_cons, List.length_nil, List.length_map, List.length_set, List.set_cons_zero, List.set_cons_succ, Nat.reduceLT, List.all_cons, List.all_nil, List.any_cons, List.any_nil, List.zip_cons_cons, List.zip_nil_left, List.zip_nil_right, List.foldl_cons, List.foldl_nil, List.getD_cons_zero, List.getD_cons_succ, List.mem_cons, List.not_mem_nil, forall_eq_or_imp, forall_eq, or_false, false_or, true_or, or_true, true_and, and_true, false_and, and_false, false_implies, implies_true, forall_const, ↓reduceIte, if_true, if_false, Bool.false_eq_true, Bool.true_and, Bool.and_true, Bool.false_and, Bool.and_false, Bool.or_false, Bool.false_or, Bool.or_true, Bool.true_or, Bool.not_true, Bool.not_false, Bool.and_eq_true, Bool.or_eq_true, Bool.not_eq_true', decide_eq_true_eq, decide_eq_false_iff_not, ne_eq, not_false_eq_true, not_true_eq_false, reduceCtorEq, decide_true, decide_false, Nat.reduceAdd, Nat.reduceLeDiff, Nat.reduceEqDiff, TL.all_isInt, TL.map_intOf, TL.all_isBool, TL.map_boolOf, TL.take_ints, TL.drop_ints, List.take_succ_cons, List.take_zero, List.drop_succ_cons, List.drop_zero, List.take_nil, List.drop_nil, TL.fmod_n, TL.fdiv_n, TL.cut_to, TL.cut_from, TL.cut_mid, Int.reduceEq, Int.reduceNe, Int.reduceNeg, Int.reduceAdd, Int.reduceMul, Int.reduceSub, Int.reduceLT, Int.reduceLE, Int.reduceGT, Int.reduceGE, Int.reducePow, Int.reduceToNat, Int.add_zero, Int.zero_add, String.reduceEq, String.reduceBEq])
section
set_option autoImplicit false
/-! the program by its trees: k18_rows_of_bonds -/
namespace Pr
open PySem PySem.Spec PyProof.Rows L2 TL

def b_is_leap : CSs :=
  (.cons (.ret (.and (.cmp .Eq (.bin .Mod (.var 0) (.lit (.int 4))) (.lit (.int 0))) (.cmp .NotIn (.var 0) (.tup (.cons (.lit (.int 1900)) (.cons (.lit (.int 2100)) .nil)))))) .nil)
def d_is_leap : CDef := ⟨1, 0, false, b_is_leap⟩
def b_month_length : CSs :=
  (.cons (.ret (.ife (.and (.of (.cmp .Eq (.var 1) (.lit (.int 2)))) (.of (.call "is_leap" (.cons (.var 0) .nil)))) (.lit (.int 29)) (.idx (.glb "MONTHS") (.bin .Sub (.var 1) (.lit (.int 1)))))) .nil)
def d_month_length : CDef := ⟨2, 0, false, b_month_length⟩
def b_year_start : CSs :=
  (.cons (.asg (.var 1) (.bin .Mult (.bin .Sub (.var 0) (.glb "FIRST_YEAR")) (.lit (.int 365)))) (.cons (.ret (.bin .Add (.var 1) (.bl1 .len (.lc (.var 2) (.var 2) (.rng3 (.glb "FIRST_YEAR") (.var 0) 4) (.so (.of (.call "is_leap" (.cons (.var 2) .nil)))) [2])))) .nil))
def d_year_start : CDef := ⟨1, 2, false, b_year_start⟩
def b_date_of : CSs :=
  (.cons (.asg (.var 1) (.bin .Add (.glb "FIRST_YEAR") (.bin .FloorDiv (.var 0) (.lit (.int 366))))) (.cons (.whl (.and (.of (.cmp .Lt (.var 1) (.glb "LAST_YEAR"))) (.of (.cmp .LtE (.call "year_start" (.cons (.bin .Add (.var 1) (.lit (.int 1))) .nil)) (.var 0)))) (.cons (.aug 1 .Add (.lit (.int 1))) .nil)) (.cons (.par [2, 3] (.cons (.bin .Sub (.var 0) (.call "year_start" (.cons (.var 1) .nil))) (.cons (.lit (.int 1)) .nil))) (.cons (.whl (.of (.cmp .GtE (.var 2) (.call "month_length" (.cons (.var 1) (.cons (.var 3) .nil))))) (.cons (.aug 2 .Sub (.call "month_length" (.cons (.var 1) (.cons (.var 3) .nil)))) (.cons (.aug 3 .Add (.lit (.int 1))) .nil))) (.cons (.ret (.tup (.cons (.var 1) (.cons (.var 3) (.cons (.bin .Add (.var 2) (.lit (.int 1))) .nil))))) .nil)))))
def d_date_of : CDef := ⟨1, 3, false, b_date_of⟩
def b_divisor : CSs :=
  (.cons (.whl (.of (.cmp .NotEq (.var 1) (.lit (.int 0)))) (.cons (.par [0, 1] (.cons (.var 1) (.cons (.bin .Mod (.var 0) (.var 1)) .nil))) .nil)) (.cons (.ret (.bl1 .abs (.var 0))) .nil))
def d_divisor : CDef := ⟨2, 0, false, b_divisor⟩
def b_fraction : CSs :=
  (.cons (.asg (.var 2) (.call "divisor" (.cons (.var 0) (.cons (.var 1) .nil)))) (.cons (.ite (.of (.cmp .Lt (.var 1) (.lit (.int 0)))) (.cons (.asg (.var 2) (.bin .Sub (.lit (.int 0)) (.var 2))) .nil) .nil) (.cons (.ret (.tup (.cons (.bin .FloorDiv (.var 0) (.var 2)) (.cons (.bin .FloorDiv (.var 1) (.var 2)) .nil)))) .nil)))
def d_fraction : CDef := ⟨2, 1, false, b_fraction⟩
def b_plus : CSs :=
  (.cons (.ret (.call "fraction" (.cons (.bin .Add (.bin .Mult (.idx (.var 0) (.lit (.int 0))) (.idx (.var 1) (.lit (.int 1)))) (.bin .Mult (.idx (.var 1) (.lit (.int 0))) (.idx (.var 0) (.lit (.int 1))))) (.cons (.bin .Mult (.idx (.var 0) (.lit (.int 1))) (.idx (.var 1) (.lit (.int 1)))) .nil)))) .nil)
def d_plus : CDef := ⟨2, 0, false, b_plus⟩
def b_times : CSs :=
  (.cons (.ret (.call "fraction" (.cons (.bin .Mult (.idx (.var 0) (.lit (.int 0))) (.idx (.var 1) (.lit (.int 0)))) (.cons (.bin .Mult (.idx (.var 0) (.lit (.int 1))) (.idx (.var 1) (.lit (.int 1)))) .nil)))) .nil)
def d_times : CDef := ⟨2, 0, false, b_times⟩
def b_sum_all : CSs :=
  (.cons (.asg (.var 1) (.glb "ZERO")) (.cons (.for (.var 2) (.of (.var 0)) (.cons (.asg (.var 1) (.call "plus" (.cons (.var 1) (.cons (.var 2) .nil)))) .nil)) (.cons (.ret (.var 1)) .nil)))
def d_sum_all : CDef := ⟨1, 2, false, b_sum_all⟩
def b_by_months : CSs :=
  (.cons (.asg (.tup (.cons (.var 4) (.cons (.var 5) (.cons (.var 3) .nil)))) (.call "date_of" (.cons (.var 1) .nil))) (.cons (.asg (.tup (.cons (.var 6) (.cons (.var 7) (.cons (.var 8) .nil)))) (.call "date_of" (.cons (.var 2) .nil))) (.cons (.asg (.var 3) (.bl2 .min (.var 3) (.lit (.int 30)))) (.cons (.ite (.or (.of (.cmp .Eq (.var 0) (.lit (.str "30E/360")))) (.of (.cmp .Eq (.var 3) (.lit (.int 30))))) (.cons (.asg (.var 8) (.bl2 .min (.var 8) (.lit (.int 30)))) .nil) .nil) (.cons (.ret (.bin .Sub (.bin .Add (.bin .Add (.bin .Mult (.lit (.int 360)) (.bin .Sub (.var 6) (.var 4))) (.bin .Mult (.lit (.int 30)) (.bin .Sub (.var 7) (.var 5)))) (.var 8)) (.var 3))) .nil)))))
def d_by_months : CDef := ⟨3, 6, false, b_by_months⟩
def b_count : CSs :=
  (.cons (.ite (.of (.cmp .Eq (.var 0) (.lit (.str "actual/360")))) (.cons (.ret (.call "fraction" (.cons (.bin .Sub (.var 2) (.var 1)) (.cons (.lit (.int 360)) .nil)))) .nil) .nil) (.cons (.ite (.of (.cmp .Eq (.var 0) (.lit (.str "actual/365")))) (.cons (.ret (.call "fraction" (.cons (.bin .Sub (.var 2) (.var 1)) (.cons (.lit (.int 365)) .nil)))) .nil) .nil) (.cons (.ret (.call "fraction" (.cons (.call "by_months" (.cons (.var 0) (.cons (.var 1) (.cons (.var 2) .nil)))) (.cons (.lit (.int 360)) .nil)))) .nil)))
def d_count : CDef := ⟨3, 0, false, b_count⟩
def b_owed : CSs :=
  (.cons (.ret (.call "sum_all" (.cons (.slc (.idx (.var 0) (.lit (.int 4))) (.so (.var 1)) .no) .nil))) .nil)
def d_owed : CDef := ⟨2, 0, false, b_owed⟩
def b_part_of : CSs :=
  (.cons (.asg (.tup (.cons (.var 3) (.cons (.var 4) (.cons (.var 5) (.cons (.var 6) (.cons (.var 7) .nil)))))) (.var 0)) (.cons (.par [8, 9] (.cons (.idx (.var 3) (.var 1)) (.cons (.idx (.var 3) (.bin .Add (.var 1) (.lit (.int 1)))) .nil))) (.cons (.ite (.of (.cmp .Eq (.var 6) (.glb "BY_PERIOD"))) (.cons (.ret (.call "fraction" (.cons (.bin .Sub (.var 2) (.var 8)) (.cons (.bin .Mult (.var 5) (.bin .Sub (.var 9) (.var 8))) .nil)))) .nil) .nil) (.cons (.ret (.call "count" (.cons (.var 6) (.cons (.var 8) (.cons (.var 2) .nil))))) .nil))))
def d_part_of : CDef := ⟨3, 7, false, b_part_of⟩
def b_interest : CSs :=
  (.cons (.ret (.call "times" (.cons (.call "times" (.cons (.call "owed" (.cons (.var 0) (.cons (.var 1) .nil))) (.cons (.idx (.var 0) (.lit (.int 1))) .nil))) (.cons (.call "part_of" (.cons (.var 0) (.cons (.var 1) (.cons (.var 2) .nil)))) .nil)))) .nil)
def d_interest : CDef := ⟨3, 0, false, b_interest⟩
def b_flows : CSs :=
  (.cons (.asg (.var 1) (.lst .nil)) (.cons (.for (.tup (.cons (.var 2) (.cons (.var 3) .nil))) (.enum (.slc (.idx (.var 0) (.lit (.int 0))) (.so (.lit (.int 1))) .no)) (.cons (.app 1 (.tup (.cons (.var 3) (.cons (.call "plus" (.cons (.call "interest" (.cons (.var 0) (.cons (.var 2) (.cons (.var 3) .nil)))) (.cons (.idx (.idx (.var 0) (.lit (.int 4))) (.var 2)) .nil))) .nil)))) .nil)) (.cons (.ret (.bl1 .tuple (.var 1))) .nil)))
def d_flows : CDef := ⟨1, 3, false, b_flows⟩
def b_period_of : CSs :=
  (.cons (.asg (.var 2) (.idx (.var 0) (.lit (.int 0)))) (.cons (.for (.var 3) (.rng1 (.bin .Sub (.bl1 .len (.var 2)) (.lit (.int 1)))) (.cons (.ite (.of (.chn .LtE .Lt (.idx (.var 2) (.var 3)) (.var 1) (.idx (.var 2) (.bin .Add (.var 3) (.lit (.int 1)))))) (.cons (.ret (.var 3)) .nil) .nil) .nil)) (.cons (.ret (.lit .none)) .nil)))
def d_period_of : CDef := ⟨2, 2, false, b_period_of⟩
def b_row_of : CSs :=
  (.cons (.asg (.var 2) (.bl1 .tuple (.lc (.var 7) (.tup (.cons (.var 6) (.cons (.var 7) .nil))) (.of (.call "flows" (.cons (.var 0) .nil))) (.so (.of (.cmp .Gt (.var 6) (.var 1)))) [6, 7]))) (.cons (.asg (.var 3) (.call "period_of" (.cons (.var 0) (.cons (.var 1) .nil)))) (.cons (.ite (.of (.cmp .Is (.var 3) (.lit .none))) (.cons (.ret (.tup (.cons (.var 2) (.cons (.glb "ONE") .nil)))) .nil) .nil) (.cons (.par [4, 5] (.cons (.idx (.idx (.var 0) (.lit (.int 0))) (.var 3)) (.cons (.idx (.idx (.var 0) (.lit (.int 0))) (.bin .Add (.var 3) (.lit (.int 1)))) .nil))) (.cons (.ret (.tup (.cons (.var 2) (.cons (.call "fraction" (.cons (.bin .Sub (.var 5) (.var 1)) (.cons (.bin .Sub (.var 5) (.var 4)) .nil))) .nil)))) .nil)))))
def d_row_of : CDef := ⟨2, 6, false, b_row_of⟩
def b_law_open : CSs :=
  (.cons (.asg (.var 1) (.bl1 .list (.slc (.var 0) .no (.so (.lit (.int 12)))))) (.cons (.for (.tup (.cons (.var 2) (.cons (.var 3) .nil))) (.enum (.slc (.var 0) (.so (.lit (.int 12))) (.so (.lit (.int 63))))) (.cons (.sub 1 (.bin .Mod (.var 2) (.lit (.int 12))) (.bin .Add (.idx (.var 1) (.bin .Mod (.var 2) (.lit (.int 12)))) (.var 3))) .nil)) (.cons (.ret (.lst (.cons (.var 1) (.cons (.lit (.int 0)) (.cons (.lit (.int 0)) .nil))))) .nil)))
def d_law_open : CDef := ⟨1, 3, false, b_law_open⟩
def b_law_spread : CSs :=
  (.cons (.ite (.of (.cmp .GtE (.var 0) (.bin .Pow (.lit (.int 10)) (.lit (.int 18))))) (.cons (.ret (.var 0)) .nil) .nil) (.cons (.asg (.var 2) (.lst (.cons (.lit (.int 2147483629)) (.cons (.lit (.int 2147483587)) (.cons (.lit (.int 2147483579)) (.cons (.lit (.int 2147483563)) (.cons (.lit (.int 2147483549)) (.cons (.lit (.int 2147483543)) (.cons (.lit (.int 2147483497)) (.cons (.lit (.int 2147483489)) .nil)))))))))) (.cons (.asg (.var 2) (.bin .Add (.var 2) (.lst (.cons (.lit (.int 2147483477)) (.cons (.lit (.int 2147483423)) (.cons (.lit (.int 2147483399)) (.cons (.lit (.int 2147483353)) (.cons (.lit (.int 2147483323)) .nil)))))))) (.cons (.asg (.var 3) (.bin .Mod (.bin .Pow (.bin .Add (.bin .Add (.bin .Mult (.bin .Mod (.var 0) (.lit (.int 1000000007))) (.bin .Add (.bin .Mult (.lit (.int 2)) (.var 1)) (.lit (.int 69069)))) (.bin .Mult (.var 1) (.lit (.int 40503)))) (.lit (.int 977))) (.lit (.int 3))) (.idx (.var 2) (.bin .Mod (.var 1) (.lit (.int 13)))))) (.cons (.asg (.var 4) (.bin .Mod (.bin .Pow (.bin .Add (.bin .Add (.bin .Mult (.var 3) (.bin .Add (.var 1) (.lit (.int 3)))) (.bin .Mod (.var 0) (.lit (.int 65537)))) (.lit (.int 5))) (.lit (.int 5))) (.idx (.var 2) (.bin .Mod (.bin .Add (.var 1) (.lit (.int 5))) (.lit (.int 13)))))) (.cons (.asg (.var 5) (.bin .Mod (.bin .Pow (.bin .Add (.bin .Add (.var 4) (.bin .Mod (.var 3) (.lit (.int 1009)))) (.var 1)) (.lit (.int 3))) (.idx (.var 2) (.bin .Mod (.bin .Add (.var 1) (.lit (.int 7))) (.lit (.int 13)))))) (.cons (.ret (.bin .Add (.bin .Mult (.bin .Add (.bin .Mult (.var 3) (.lit (.int 2147483647))) (.var 4)) (.lit (.int 2147483647))) (.var 5))) .nil)))))))
def d_law_spread : CDef := ⟨2, 4, false, b_law_spread⟩
def b_law_take : CSs :=
  (.cons (.ite (.of (.cmp .Lt (.idx (.var 0) (.lit (.int 2))) (.var 1))) (.cons (.asg (.var 3) (.idx (.var 0) (.lit (.int 1)))) (.cons (.asg (.var 4) (.lit (.int 0))) (.cons (.ite (.of (.cmp .Lt (.var 3) (.bl1 .len (.idx (.var 0) (.lit (.int 0)))))) (.cons (.asg (.var 4) (.idx (.idx (.var 0) (.lit (.int 0))) (.var 3))) .nil) (.cons (.ite (.of (.cmp .Gt (.bl1 .len (.idx (.var 0) (.lit (.int 0)))) (.lit (.int 0)))) (.cons (.asg (.var 4) (.bin .Mod (.idx (.idx (.var 0) (.lit (.int 0))) (.bin .Mod (.bin .Add (.bin .Mult (.var 3) (.lit (.int 5))) (.lit (.int 3))) (.bl1 .len (.idx (.var 0) (.lit (.int 0)))))) (.bin .Add (.bin .Pow (.lit (.int 10)) (.lit (.int 17))) (.var 3)))) .nil) .nil) .nil)) (.cons (.sub 0 (.lit (.int 1)) (.bin .Add (.var 3) (.lit (.int 1)))) (.cons (.sub 0 (.lit (.int 2)) (.call "_law_spread" (.cons (.var 4) (.cons (.var 3) .nil)))) .nil))))) .nil) (.cons (.asg (.var 2) (.bin .Mod (.idx (.var 0) (.lit (.int 2))) (.var 1))) (.cons (.sub 0 (.lit (.int 2)) (.bin .FloorDiv (.idx (.var 0) (.lit (.int 2))) (.var 1))) (.cons (.ret (.var 2)) .nil))))
def d_law_take : CDef := ⟨2, 3, true, b_law_take⟩
def b_law_same : CSs :=
  (.cons (.ite (.or (.of (.cmp .Is (.var 1) (.lit .none))) (.of (.cmp .Is (.var 0) (.lit .none)))) (.cons (.ret (.and (.cmp .Is (.var 1) (.lit .none)) (.cmp .Is (.var 0) (.lit .none)))) .nil) .nil) (.cons (.ite (.or (.of (.isi (.var 1) ["bool"])) (.of (.isi (.var 0) ["bool"]))) (.cons (.ret (.and (.isi (.var 1) ["bool"]) (.and (.isi (.var 0) ["bool"]) (.cmp .Eq (.var 0) (.var 1))))) .nil) .nil) (.cons (.ite (.of (.isi (.var 1) ["int", "str"])) (.cons (.ite (.of (.cmp .NotEq (.isi (.var 0) ["int"]) (.isi (.var 1) ["int"]))) (.cons (.ret (.lit (.bool false))) .nil) .nil) (.cons (.ret (.and (.isi (.var 0) ["int", "str"]) (.cmp .Eq (.var 0) (.var 1)))) .nil)) .nil) (.cons (.ite (.or (.of (.cmp .NotEq (.isi (.var 1) ["tuple"]) (.isi (.var 0) ["tuple"]))) (.of (.cmp .NotEq (.isi (.var 1) ["list"]) (.isi (.var 0) ["list"])))) (.cons (.ret (.lit (.bool false))) .nil) .nil) (.cons (.ite (.of (.cmp .NotEq (.bl1 .len (.var 0)) (.bl1 .len (.var 1)))) (.cons (.ret (.lit (.bool false))) .nil) .nil) (.cons (.ret (.cmp .NotIn (.lit (.bool false)) (.lc (.call "_law_same" (.cons (.var 2) (.cons (.var 3) .nil))) (.tup (.cons (.var 2) (.cons (.var 3) .nil))) (.zip (.var 0) (.var 1) none) .no [2, 3]))) .nil))))))
def d_law_same : CDef := ⟨2, 2, false, b_law_same⟩
def b_law_one_of : CSs :=
  (.cons (.ret (.idx (.var 1) (.pcall "_law_take" 0 (.cons (.bl1 .len (.var 1)) .nil)))) .nil)
def d_law_one_of : CDef := ⟨2, 0, true, b_law_one_of⟩
def b_law_lengths : CSs :=
  (.cons (.asg (.var 1) (.bl1 .int (.and (.cmp .Eq (.bin .Mod (.var 0) (.lit (.int 4))) (.lit (.int 0))) (.cmp .NotIn (.var 0) (.tup (.cons (.lit (.int 1900)) (.cons (.lit (.int 2100)) .nil))))))) (.cons (.ret (.lst (.cons (.lit (.int 31)) (.cons (.bin .Add (.lit (.int 28)) (.var 1)) (.cons (.lit (.int 31)) (.cons (.lit (.int 30)) (.cons (.lit (.int 31)) (.cons (.lit (.int 30)) (.cons (.lit (.int 31)) (.cons (.lit (.int 31)) (.cons (.lit (.int 30)) (.cons (.lit (.int 31)) (.cons (.lit (.int 30)) (.cons (.lit (.int 31)) .nil)))))))))))))) .nil))
def d_law_lengths : CDef := ⟨1, 1, false, b_law_lengths⟩
def b_law_day_of : CSs :=
  (.cons (.asg (.tup (.cons (.var 2) (.cons (.var 3) (.cons (.var 4) .nil)))) (.var 0)) (.cons (.asg (.var 1) (.bin .Sub (.bl2 .max (.lit (.int 0)) (.bin .FloorDiv (.bin .Sub (.var 2) (.lit (.int 1901))) (.lit (.int 4)))) (.bl1 .int (.cmp .Gt (.var 2) (.lit (.int 2100)))))) (.cons (.ret (.bin .Sub (.bin .Add (.bin .Add (.bin .Add (.bin .Mult (.lit (.int 365)) (.bin .Sub (.var 2) (.lit (.int 1900)))) (.var 1)) (.bl1 .sum (.slc (.call "_law_lengths" (.cons (.var 2) .nil)) .no (.so (.bin .Sub (.var 3) (.lit (.int 1))))))) (.var 4)) (.lit (.int 1)))) .nil)))
def d_law_day_of : CDef := ⟨1, 4, false, b_law_day_of⟩
def b_law_date_of : CSs :=
  (.cons (.asg (.var 1) (.bin .Add (.lit (.int 1900)) (.bin .FloorDiv (.var 0) (.lit (.int 366))))) (.cons (.whl (.and (.of (.cmp .Lt (.var 1) (.lit (.int 2199)))) (.of (.cmp .LtE (.call "_law_day_of" (.cons (.tup (.cons (.bin .Add (.var 1) (.lit (.int 1))) (.cons (.lit (.int 1)) (.cons (.lit (.int 1)) .nil)))) .nil)) (.var 0)))) (.cons (.asg (.var 1) (.bin .Add (.var 1) (.lit (.int 1)))) .nil)) (.cons (.par [2, 3] (.cons (.bin .Sub (.var 0) (.call "_law_day_of" (.cons (.tup (.cons (.var 1) (.cons (.lit (.int 1)) (.cons (.lit (.int 1)) .nil)))) .nil))) (.cons (.lit (.int 1)) .nil))) (.cons (.whl (.of (.cmp .GtE (.var 2) (.idx (.call "_law_lengths" (.cons (.var 1) .nil)) (.bin .Sub (.var 3) (.lit (.int 1)))))) (.cons (.par [2, 3] (.cons (.bin .Sub (.var 2) (.idx (.call "_law_lengths" (.cons (.var 1) .nil)) (.bin .Sub (.var 3) (.lit (.int 1))))) (.cons (.bin .Add (.var 3) (.lit (.int 1))) .nil))) .nil)) (.cons (.ret (.tup (.cons (.var 1) (.cons (.var 3) (.cons (.bin .Add (.var 2) (.lit (.int 1))) .nil))))) .nil)))))
def d_law_date_of : CDef := ⟨1, 3, false, b_law_date_of⟩
def b_law_gcd : CSs :=
  (.cons (.whl (.of (.cmp .NotEq (.var 1) (.lit (.int 0)))) (.cons (.par [0, 1] (.cons (.var 1) (.cons (.bin .Mod (.var 0) (.var 1)) .nil))) .nil)) (.cons (.ret (.bl1 .abs (.var 0))) .nil))
def d_law_gcd : CDef := ⟨2, 0, false, b_law_gcd⟩
def b_law_fraction : CSs :=
  (.cons (.asg (.var 2) (.call "_law_gcd" (.cons (.var 0) (.cons (.var 1) .nil)))) (.cons (.ret (.tup (.cons (.bin .FloorDiv (.var 0) (.var 2)) (.cons (.bin .FloorDiv (.var 1) (.var 2)) .nil)))) .nil))
def d_law_fraction : CDef := ⟨2, 1, false, b_law_fraction⟩
def b_law_plus : CSs :=
  (.cons (.ret (.call "_law_fraction" (.cons (.bin .Add (.bin .Mult (.idx (.var 0) (.lit (.int 0))) (.idx (.var 1) (.lit (.int 1)))) (.bin .Mult (.idx (.var 1) (.lit (.int 0))) (.idx (.var 0) (.lit (.int 1))))) (.cons (.bin .Mult (.idx (.var 0) (.lit (.int 1))) (.idx (.var 1) (.lit (.int 1)))) .nil)))) .nil)
def d_law_plus : CDef := ⟨2, 0, false, b_law_plus⟩
def b_law_times : CSs :=
  (.cons (.ret (.call "_law_fraction" (.cons (.bin .Mult (.idx (.var 0) (.lit (.int 0))) (.idx (.var 1) (.lit (.int 0)))) (.cons (.bin .Mult (.idx (.var 0) (.lit (.int 1))) (.idx (.var 1) (.lit (.int 1)))) .nil)))) .nil)
def d_law_times : CDef := ⟨2, 0, false, b_law_times⟩
def b_law_sum : CSs :=
  (.cons (.asg (.var 1) (.tup (.cons (.lit (.int 0)) (.cons (.lit (.int 1)) .nil)))) (.cons (.for (.var 2) (.of (.var 0)) (.cons (.asg (.var 1) (.call "_law_plus" (.cons (.var 1) (.cons (.var 2) .nil)))) .nil)) (.cons (.ret (.var 1)) .nil)))
def d_law_sum : CDef := ⟨1, 2, false, b_law_sum⟩
def b_law_draw_fraction : CSs :=
  (.cons (.asg (.var 2) (.pcall "_law_one_of" 0 (.cons (.lst (.cons (.lit (.int 1)) (.cons (.lit (.int 1)) (.cons (.lit (.int 1)) (.cons (.lit (.int 2)) (.cons (.lit (.int 3)) (.cons (.lit (.int 4)) (.cons (.lit (.int 10)) (.cons (.lit (.int 100)) (.cons (.bin .Add (.lit (.int 1)) (.pcall "_law_take" 0 (.cons (.lit (.int 40)) .nil))) .nil)))))))))) .nil))) (.cons (.ret (.call "_law_fraction" (.cons (.pcall "_law_one_of" 0 (.cons (.lst (.cons (.lit (.int 0)) (.cons (.lit (.int 1)) (.cons (.pcall "_law_take" 0 (.cons (.bin .Add (.bin .Mult (.var 1) (.var 2)) (.lit (.int 1))) .nil)) (.cons (.bin .Mult (.var 1) (.var 2)) .nil))))) .nil)) (.cons (.var 2) .nil)))) .nil))
def d_law_draw_fraction : CDef := ⟨2, 1, true, b_law_draw_fraction⟩
def b_law_count : CSs :=
  (.cons (.ite (.or (.of (.cmp .Eq (.var 0) (.lit (.str "actual/360")))) (.of (.cmp .Eq (.var 0) (.lit (.str "actual/365"))))) (.cons (.ret (.call "_law_fraction" (.cons (.bin .Sub (.var 2) (.var 1)) (.cons (.ife (.of (.cmp .Eq (.var 0) (.lit (.str "actual/360")))) (.lit (.int 360)) (.lit (.int 365))) .nil)))) .nil) .nil) (.cons (.par [3, 4] (.cons (.call "_law_date_of" (.cons (.var 1) .nil)) (.cons (.call "_law_date_of" (.cons (.var 2) .nil)) .nil))) (.cons (.par [5, 6] (.cons (.idx (.var 3) (.lit (.int 2))) (.cons (.idx (.var 4) (.lit (.int 2))) .nil))) (.cons (.ite (.of (.cmp .Eq (.var 0) (.lit (.str "30E/360")))) (.cons (.par [5, 6] (.cons (.bl2 .min (.var 5) (.lit (.int 30))) (.cons (.bl2 .min (.var 6) (.lit (.int 30))) .nil))) .nil) (.cons (.asg (.var 5) (.bl2 .min (.var 5) (.lit (.int 30)))) (.cons (.asg (.var 6) (.ife (.and (.of (.cmp .Eq (.var 6) (.lit (.int 31)))) (.of (.cmp .Eq (.var 5) (.lit (.int 30))))) (.lit (.int 30)) (.var 6))) .nil))) (.cons (.ret (.call "_law_fraction" (.cons (.bin .Sub (.bin .Add (.bin .Add (.bin .Mult (.lit (.int 360)) (.bin .Sub (.idx (.var 4) (.lit (.int 0))) (.idx (.var 3) (.lit (.int 0))))) (.bin .Mult (.lit (.int 30)) (.bin .Sub (.idx (.var 4) (.lit (.int 1))) (.idx (.var 3) (.lit (.int 1)))))) (.var 6)) (.var 5)) (.cons (.lit (.int 360)) .nil)))) .nil)))))
def d_law_count : CDef := ⟨3, 4, false, b_law_count⟩
def b_law_words : CSs :=
  (.cons (.ret (.lst (.cons (.lit (.str "actual/360")) (.cons (.lit (.str "actual/365")) (.cons (.lit (.str "30/360")) (.cons (.lit (.str "30E/360")) .nil)))))) .nil)
def d_law_words : CDef := ⟨0, 1, false, b_law_words⟩
def b_law_draw_days : CSs :=
  (.cons (.asg (.var 3) (.lst (.cons (.var 1) .nil))) (.cons (.for (.var 4) (.rng1 (.bin .Add (.lit (.int 1)) (.pcall "_law_take" 0 (.cons (.var 2) .nil)))) (.cons (.app 3 (.bin .Add (.idx (.var 3) (.neg (.lit (.int 1)))) (.pcall "_law_one_of" 0 (.cons (.lst (.cons (.lit (.int 1)) (.cons (.lit (.int 7)) (.cons (.lit (.int 30)) (.cons (.lit (.int 91)) (.cons (.lit (.int 182)) (.cons (.lit (.int 365)) (.cons (.bin .Add (.lit (.int 1)) (.pcall "_law_take" 0 (.cons (.lit (.int 200)) .nil))) .nil)))))))) .nil)))) .nil)) (.cons (.ret (.bl1 .tuple (.var 3))) .nil)))
def d_law_draw_days : CDef := ⟨3, 2, true, b_law_draw_days⟩
def b_law_draw_bond : CSs :=
  (.cons (.asg (.var 3) (.pcall "_law_draw_days" 0 (.cons (.var 1) (.cons (.var 2) .nil)))) (.cons (.asg (.var 4) (.lc (.pcall "_law_one_of" 0 (.cons (.lst (.cons (.tup (.cons (.lit (.int 0)) (.cons (.lit (.int 1)) .nil))) (.cons (.tup (.cons (.lit (.int 0)) (.cons (.lit (.int 1)) .nil))) (.cons (.pcall "_law_draw_fraction" 0 (.cons (.lit (.int 50)) .nil)) .nil)))) .nil)) (.var 7) (.of (.slc (.var 3) (.so (.lit (.int 1))) .no)) .no [7])) (.cons (.sub 4 (.neg (.lit (.int 1))) (.pcall "_law_one_of" 0 (.cons (.lst (.cons (.tup (.cons (.lit (.int 100)) (.cons (.lit (.int 1)) .nil))) (.cons (.tup (.cons (.lit (.int 100)) (.cons (.lit (.int 1)) .nil))) (.cons (.pcall "_law_draw_fraction" 0 (.cons (.lit (.int 100)) .nil)) (.cons (.tup (.cons (.lit (.int 0)) (.cons (.lit (.int 1)) .nil))) .nil))))) .nil))) (.cons (.asg (.var 5) (.pcall "_law_one_of" 0 (.cons (.bin .Add (.call "_law_words" .nil) (.lst (.cons (.lit (.str "period")) (.cons (.lit (.str "period")) .nil)))) .nil))) (.cons (.asg (.var 6) (.pcall "_law_one_of" 0 (.cons (.lst (.cons (.tup (.cons (.lit (.int 0)) (.cons (.lit (.int 1)) .nil))) (.cons (.tup (.cons (.lit (.int 1)) (.cons (.lit (.int 20)) .nil))) (.cons (.tup (.cons (.lit (.int 1)) (.cons (.lit (.int 10)) .nil))) (.cons (.tup (.cons (.neg (.lit (.int 1))) (.cons (.lit (.int 50)) .nil))) (.cons (.pcall "_law_draw_fraction" 0 (.cons (.lit (.int 1)) .nil)) .nil)))))) .nil))) (.cons (.ret (.tup (.cons (.var 3) (.cons (.var 6) (.cons (.pcall "_law_one_of" 0 (.cons (.lst (.cons (.lit (.int 1)) (.cons (.lit (.int 2)) (.cons (.lit (.int 3)) (.cons (.lit (.int 4)) (.cons (.lit (.int 6)) (.cons (.lit (.int 12)) .nil))))))) .nil)) (.cons (.var 5) (.cons (.bl1 .tuple (.var 4)) .nil))))))) .nil))))))
def d_law_draw_bond : CDef := ⟨3, 5, true, b_law_draw_bond⟩
def b_law_owed : CSs :=
  (.cons (.ret (.call "_law_sum" (.cons (.slc (.idx (.var 0) (.lit (.int 4))) (.so (.var 1)) .no) .nil))) .nil)
def d_law_owed : CDef := ⟨2, 0, false, b_law_owed⟩
def b_law_interest : CSs :=
  (.cons (.asg (.tup (.cons (.var 4) (.cons (.var 5) (.cons (.var 6) (.cons (.var 7) .nil))))) (.slc (.var 0) .no (.so (.lit (.int 4))))) (.cons (.ite (.of (.cmp .Eq (.var 7) (.lit (.str "period")))) (.cons (.asg (.var 8) (.call "_law_fraction" (.cons (.bin .Sub (.var 3) (.var 2)) (.cons (.bin .Mult (.var 6) (.bin .Sub (.idx (.var 4) (.bin .Add (.var 1) (.lit (.int 1)))) (.idx (.var 4) (.var 1)))) .nil)))) .nil) (.cons (.asg (.var 8) (.call "_law_count" (.cons (.var 7) (.cons (.var 2) (.cons (.var 3) .nil))))) .nil)) (.cons (.ret (.call "_law_times" (.cons (.call "_law_times" (.cons (.call "_law_owed" (.cons (.var 0) (.cons (.var 1) .nil))) (.cons (.var 5) .nil))) (.cons (.var 8) .nil)))) .nil)))
def d_law_interest : CDef := ⟨4, 5, false, b_law_interest⟩
def b_law_flows : CSs :=
  (.cons (.par [2, 3] (.cons (.idx (.var 0) (.lit (.int 0))) (.cons (.lst .nil) .nil))) (.cons (.for (.var 1) (.rng1 (.bin .Sub (.bl1 .len (.var 2)) (.lit (.int 1)))) (.cons (.app 3 (.tup (.cons (.idx (.var 2) (.bin .Add (.var 1) (.lit (.int 1)))) (.cons (.call "_law_plus" (.cons (.idx (.idx (.var 0) (.lit (.int 4))) (.var 1)) (.cons (.call "_law_interest" (.cons (.var 0) (.cons (.var 1) (.cons (.idx (.var 2) (.var 1)) (.cons (.idx (.var 2) (.bin .Add (.var 1) (.lit (.int 1)))) .nil))))) .nil))) .nil)))) .nil)) (.cons (.ret (.bl1 .tuple (.var 3))) .nil)))
def d_law_flows : CDef := ⟨1, 3, false, b_law_flows⟩
def b_law_row_of : CSs :=
  (.cons (.par [4, 5] (.cons (.idx (.var 0) (.lit (.int 0))) (.cons (.call "_law_flows" (.cons (.var 0) .nil)) .nil))) (.cons (.asg (.var 2) (.bl1 .tuple (.lc (.var 8) (.tup (.cons (.var 7) (.cons (.var 8) .nil))) (.of (.var 5)) (.so (.of (.cmp .Gt (.var 7) (.var 1)))) [7, 8]))) (.cons (.ite (.of (.cmp .Lt (.var 1) (.idx (.var 4) (.lit (.int 0))))) (.cons (.ret (.tup (.cons (.var 2) (.cons (.tup (.cons (.lit (.int 1)) (.cons (.lit (.int 1)) .nil))) .nil)))) .nil) .nil) (.cons (.asg (.var 3) (.bl1 .len (.lc (.var 6) (.var 6) (.of (.var 4)) (.so (.of (.cmp .LtE (.var 6) (.var 1)))) [6]))) (.cons (.ret (.tup (.cons (.var 2) (.cons (.call "_law_fraction" (.cons (.bin .Sub (.idx (.var 4) (.var 3)) (.var 1)) (.cons (.bin .Sub (.idx (.var 4) (.var 3)) (.idx (.var 4) (.bin .Sub (.var 3) (.lit (.int 1))))) .nil))) .nil)))) .nil)))))
def d_law_row_of : CDef := ⟨2, 7, false, b_law_row_of⟩
def b_law : CSs :=
  (.cons (.asg (.var 1) (.call "_law_open" (.cons (.var 0) .nil))) (.cons (.for (.var 2) (.rng1 (.lit (.int 6))) (.cons (.asg (.var 3) (.pcall "_law_draw_bond" 1 (.cons (.bin .Add (.lit (.int 1)) (.pcall "_law_take" 1 (.cons (.lit (.int 100000)) .nil))) (.cons (.lit (.int 12)) .nil)))) (.cons (.par [6, 7] (.cons (.idx (.var 3) (.lit (.int 0))) (.cons (.bl1 .repr (.var 3)) .nil))) (.cons (.asg (.var 4) (.lst (.cons (.idx (.var 6) (.lit (.int 0))) (.cons (.bin .Sub (.idx (.var 6) (.lit (.int 0))) (.lit (.int 1))) (.cons (.bin .Sub (.idx (.var 6) (.neg (.lit (.int 1)))) (.lit (.int 1))) (.cons (.idx (.var 6) (.neg (.lit (.int 2)))) (.cons (.pcall "_law_take" 1 (.cons (.idx (.var 6) (.lit (.int 0))) .nil)) (.cons (.pcall "_law_one_of" 1 (.cons (.slc (.var 6) .no (.so (.neg (.lit (.int 1))))) .nil)) .nil)))))))) (.cons (.for (.var 5) (.of (.bin .Add (.var 4) (.lc (.bin .Add (.idx (.var 6) (.lit (.int 0))) (.pcall "_law_take" 1 (.cons (.bin .Sub (.idx (.var 6) (.neg (.lit (.int 1)))) (.idx (.var 6) (.lit (.int 0)))) .nil))) (.var 10) (.rng1 (.lit (.int 5))) .no [10]))) (.cons (.asg (.var 8) (.bin .Add (.bin .Add (.slc (.var 3) .no (.so (.lit (.int 1)))) (.slc (.pcall "_law_draw_bond" 1 (.cons (.lit (.int 1)) (.cons (.lit (.int 1)) .nil))) (.so (.lit (.int 1))) (.so (.lit (.int 4))))) (.tup (.cons (.rvs (.idx (.var 3) (.lit (.int 4)))) .nil)))) (.cons (.for (.var 9) (.of (.lst (.cons (.var 3) (.cons (.var 8) (.cons (.var 3) .nil))))) (.cons (.ite (.or (.nt (.of (.call "_law_same" (.cons (.call "row_of" (.cons (.var 9) (.cons (.var 5) .nil))) (.cons (.call "_law_row_of" (.cons (.var 9) (.cons (.var 5) .nil))) .nil))))) (.of (.cmp .NotEq (.bl1 .repr (.var 3)) (.var 7)))) (.cons (.ret (.lit (.bool false))) .nil) .nil) .nil)) .nil))) .nil))))) (.cons (.ret (.lit (.bool true))) .nil)))
def d_law : CDef := ⟨1, 10, false, b_law⟩
def top (i : Nat) : Stmt := PySem.Challenge.pw_bondroots_k18_rows_of_bonds.main.body.getD i (.Pass ⟨0, 0, 0, 0⟩)
def rows : List TL.Row := [
  ⟨"is_leap", d_is_leap, top 4, ["year"], ["year"]⟩,
  ⟨"month_length", d_month_length, top 5, ["year", "month"], ["year", "month"]⟩,
  ⟨"year_start", d_year_start, top 6, ["year", "count", "one"], ["year"]⟩,
  ⟨"date_of", d_date_of, top 7, ["day", "year", "rest", "month"], ["day"]⟩,
  ⟨"divisor", d_divisor, top 11, ["a", "b"], ["a", "b"]⟩,
  ⟨"fraction", d_fraction, top 12, ["top", "bottom", "common"], ["top", "bottom"]⟩,
  ⟨"plus", d_plus, top 13, ["a", "b"], ["a", "b"]⟩,
  ⟨"times", d_times, top 14, ["a", "b"], ["a", "b"]⟩,
  ⟨"sum_all", d_sum_all, top 15, ["some", "found", "one"], ["some"]⟩,
  ⟨"by_months", d_by_months, top 17, ["word", "first", "last", "day", "year", "month", "later_year", "later_month", "later_day"], ["word", "first", "last"]⟩,
  ⟨"count", d_count, top 18, ["word", "first", "last"], ["word", "first", "last"]⟩,
  ⟨"owed", d_owed, top 21, ["bond", "period"], ["bond", "period"]⟩,
  ⟨"part_of", d_part_of, top 22, ["bond", "period", "day", "days", "rate", "m", "word", "paybacks", "first", "last"], ["bond", "period", "day"]⟩,
  ⟨"interest", d_interest, top 23, ["bond", "period", "day"], ["bond", "period", "day"]⟩,
  ⟨"flows", d_flows, top 24, ["bond", "found", "period", "day"], ["bond"]⟩,
  ⟨"period_of", d_period_of, top 25, ["bond", "day", "days", "period"], ["bond", "day"]⟩,
  ⟨"row_of", d_row_of, top 26, ["bond", "day", "row", "period", "first", "last", "pay_day", "amount"], ["bond", "day"]⟩,
  ⟨"_law_open", d_law_open, top 28, ["_law_script", "_law_cells", "_law_k", "_law_cell"], ["_law_script"]⟩,
  ⟨"_law_spread", d_law_spread, top 29, ["_law_cell", "_law_at", "_law_primes", "_law_one", "_law_two", "_law_three"], ["_law_cell", "_law_at"]⟩,
  ⟨"_law_take", d_law_take, top 30, ["_law_pen", "_law_amount", "_law_found", "_law_at", "_law_cell"], ["_law_pen", "_law_amount"]⟩,
  ⟨"_law_same", d_law_same, top 31, ["_law_found", "_law_due", "_law_one", "_law_other"], ["_law_found", "_law_due"]⟩,
  ⟨"_law_one_of", d_law_one_of, top 32, ["_law_pen", "_law_some"], ["_law_pen", "_law_some"]⟩,
  ⟨"_law_lengths", d_law_lengths, top 33, ["_law_year", "_law_leap"], ["_law_year"]⟩,
  ⟨"_law_day_of", d_law_day_of, top 34, ["_law_date", "_law_leaps", "_law_year", "_law_month", "_law_part"], ["_law_date"]⟩,
  ⟨"_law_date_of", d_law_date_of, top 35, ["_law_day", "_law_year", "_law_rest", "_law_month"], ["_law_day"]⟩,
  ⟨"_law_gcd", d_law_gcd, top 36, ["_law_a", "_law_b"], ["_law_a", "_law_b"]⟩,
  ⟨"_law_fraction", d_law_fraction, top 37, ["_law_top", "_law_bottom", "_law_shared"], ["_law_top", "_law_bottom"]⟩,
  ⟨"_law_plus", d_law_plus, top 38, ["_law_a", "_law_b"], ["_law_a", "_law_b"]⟩,
  ⟨"_law_times", d_law_times, top 39, ["_law_a", "_law_b"], ["_law_a", "_law_b"]⟩,
  ⟨"_law_sum", d_law_sum, top 40, ["_law_some", "_law_found", "_law_one"], ["_law_some"]⟩,
  ⟨"_law_draw_fraction", d_law_draw_fraction, top 41, ["_law_pen", "_law_most", "_law_bottom"], ["_law_pen", "_law_most"]⟩,
  ⟨"_law_count", d_law_count, top 42, ["_law_word", "_law_first", "_law_last", "_law_one", "_law_other", "_law_a", "_law_b"], ["_law_word", "_law_first", "_law_last"]⟩,
  ⟨"_law_words", d_law_words, top 43, ["_"], []⟩,
  ⟨"_law_draw_days", d_law_draw_days, top 44, ["_law_pen", "_law_start", "_law_most", "_law_found", "_law_again"], ["_law_pen", "_law_start", "_law_most"]⟩,
  ⟨"_law_draw_bond", d_law_draw_bond, top 45, ["_law_pen", "_law_start", "_law_most", "_law_days", "_law_backs", "_law_word", "_law_rate", "_law_day"], ["_law_pen", "_law_start", "_law_most"]⟩,
  ⟨"_law_owed", d_law_owed, top 46, ["_law_bond", "_law_k"], ["_law_bond", "_law_k"]⟩,
  ⟨"_law_interest", d_law_interest, top 47, ["_law_bond", "_law_k", "_law_first", "_law_last", "_law_days", "_law_rate", "_law_m", "_law_word", "_law_part"], ["_law_bond", "_law_k", "_law_first", "_law_last"]⟩,
  ⟨"_law_flows", d_law_flows, top 48, ["_law_bond", "_law_k", "_law_days", "_law_found"], ["_law_bond"]⟩,
  ⟨"_law_row_of", d_law_row_of, top 49, ["_law_bond", "_law_day", "_law_row", "_law_k", "_law_days", "_law_some", "_law_one", "_law_later", "_law_amount"], ["_law_bond", "_law_day"]⟩,
  ⟨"law", d_law, top 50, ["_law_script", "_law_pen", "_law_turn", "_law_bond", "_law_some", "_law_day", "_law_days", "_law_seen", "_law_other", "_law_one", "_law_again"], ["_law_script"]⟩]
def cons : List (String × D) := [("BY_PERIOD", .str "period"), ("FIRST_YEAR", .int 1900), ("LAST_YEAR", .int 2199), ("MONTHS", .tuple [.int 31, .int 28, .int 31, .int 30, .int 31, .int 30, .int 31, .int 31, .int 30, .int 31, .int 30, .int 31]), ("ONE", .tuple [.int 1, .int 1]), ("ZERO", .tuple [.int 0, .int 1])]
abbrev tb : Tb := TbOf rows cons
abbrev pr : Prog := tblOf rows
set_option maxHeartbeats 0 in
theorem looked : (rows.all fun r => chkRow tb r) = true := by decide +kernel
theorem e_is_leap (n : Nat) (x0 : D) (Q : RV → List D → Prop) : run tb.G pr (n + 1) "is_leap" [x0] Q = TL.wpSs tb.G (run tb.G pr n) b_is_leap [.fz x0] ⟨fun _ => Q (.fz .none) [], fun r _ => Q r [], fun _ => False, fun _ => False⟩ := by
  rw [run_def d_is_leap rfl]; exact ent_n rfl
theorem e_month_length (n : Nat) (x0 : D) (x1 : D) (Q : RV → List D → Prop) : run tb.G pr (n + 1) "month_length" [x0, x1] Q = TL.wpSs tb.G (run tb.G pr n) b_month_length [.fz x0, .fz x1] ⟨fun _ => Q (.fz .none) [], fun r _ => Q r [], fun _ => False, fun _ => False⟩ := by
  rw [run_def d_month_length rfl]; exact ent_n rfl
theorem e_year_start (n : Nat) (x0 : D) (Q : RV → List D → Prop) : run tb.G pr (n + 1) "year_start" [x0] Q = TL.wpSs tb.G (run tb.G pr n) b_year_start [.fz x0, .un, .un] ⟨fun _ => Q (.fz .none) [], fun r _ => Q r [], fun _ => False, fun _ => False⟩ := by
  rw [run_def d_year_start rfl]; exact ent_n rfl
theorem e_date_of (n : Nat) (x0 : D) (Q : RV → List D → Prop) : run tb.G pr (n + 1) "date_of" [x0] Q = TL.wpSs tb.G (run tb.G pr n) b_date_of [.fz x0, .un, .un, .un] ⟨fun _ => Q (.fz .none) [], fun r _ => Q r [], fun _ => False, fun _ => False⟩ := by
  rw [run_def d_date_of rfl]; exact ent_n rfl
theorem e_divisor (n : Nat) (x0 : D) (x1 : D) (Q : RV → List D → Prop) : run tb.G pr (n + 1) "divisor" [x0, x1] Q = TL.wpSs tb.G (run tb.G pr n) b_divisor [.fz x0, .fz x1] ⟨fun _ => Q (.fz .none) [], fun r _ => Q r [], fun _ => False, fun _ => False⟩ := by
  rw [run_def d_divisor rfl]; exact ent_n rfl
theorem e_fraction (n : Nat) (x0 : D) (x1 : D) (Q : RV → List D → Prop) : run tb.G pr (n + 1) "fraction" [x0, x1] Q = TL.wpSs tb.G (run tb.G pr n) b_fraction [.fz x0, .fz x1, .un] ⟨fun _ => Q (.fz .none) [], fun r _ => Q r [], fun _ => False, fun _ => False⟩ := by
  rw [run_def d_fraction rfl]; exact ent_n rfl
theorem e_plus (n : Nat) (x0 : D) (x1 : D) (Q : RV → List D → Prop) : run tb.G pr (n + 1) "plus" [x0, x1] Q = TL.wpSs tb.G (run tb.G pr n) b_plus [.fz x0, .fz x1] ⟨fun _ => Q (.fz .none) [], fun r _ => Q r [], fun _ => False, fun _ => False⟩ := by
  rw [run_def d_plus rfl]; exact ent_n rfl
theorem e_times (n : Nat) (x0 : D) (x1 : D) (Q : RV → List D → Prop) : run tb.G pr (n + 1) "times" [x0, x1] Q = TL.wpSs tb.G (run tb.G pr n) b_times [.fz x0, .fz x1] ⟨fun _ => Q (.fz .none) [], fun r _ => Q r [], fun _ => False, fun _ => False⟩ := by
  rw [run_def d_times rfl]; exact ent_n rfl
theorem e_sum_all (n : Nat) (x0 : D) (Q : RV → List D → Prop) : run tb.G pr (n + 1) "sum_all" [x0] Q = TL.wpSs tb.G (run tb.G pr n) b_sum_all [.fz x0, .un, .un] ⟨fun _ => Q (.fz .none) [], fun r _ => Q r [], fun _ => False, fun _ => False⟩ := by
  rw [run_def d_sum_all rfl]; exact ent_n rfl
theorem e_by_months (n : Nat) (x0 : D) (x1 : D) (x2 : D) (Q : RV → List D → Prop) : run tb.G pr (n + 1) "by_months" [x0, x1, x2] Q = TL.wpSs tb.G (run tb.G pr n) b_by_months [.fz x0, .fz x1, .fz x2, .un, .un, .un, .un, .un, .un] ⟨fun _ => Q (.fz .none) [], fun r _ => Q r [], fun _ => False, fun _ => False⟩ := by
  rw [run_def d_by_months rfl]; exact ent_n rfl
theorem e_count (n : Nat) (x0 : D) (x1 : D) (x2 : D) (Q : RV → List D → Prop) : run tb.G pr (n + 1) "count" [x0, x1, x2] Q = TL.wpSs tb.G (run tb.G pr n) b_count [.fz x0, .fz x1, .fz x2] ⟨fun _ => Q (.fz .none) [], fun r _ => Q r [], fun _ => False, fun _ => False⟩ := by
  rw [run_def d_count rfl]; exact ent_n rfl
theorem e_owed (n : Nat) (x0 : D) (x1 : D) (Q : RV → List D → Prop) : run tb.G pr (n + 1) "owed" [x0, x1] Q = TL.wpSs tb.G (run tb.G pr n) b_owed [.fz x0, .fz x1] ⟨fun _ => Q (.fz .none) [], fun r _ => Q r [], fun _ => False, fun _ => False⟩ := by
  rw [run_def d_owed rfl]; exact ent_n rfl
theorem e_part_of (n : Nat) (x0 : D) (x1 : D) (x2 : D) (Q : RV → List D → Prop) : run tb.G pr (n + 1) "part_of" [x0, x1, x2] Q = TL.wpSs tb.G (run tb.G pr n) b_part_of [.fz x0, .fz x1, .fz x2, .un, .un, .un, .un, .un, .un, .un] ⟨fun _ => Q (.fz .none) [], fun r _ => Q r [], fun _ => False, fun _ => False⟩ := by
  rw [run_def d_part_of rfl]; exact ent_n rfl
theorem e_interest (n : Nat) (x0 : D) (x1 : D) (x2 : D) (Q : RV → List D → Prop) : run tb.G pr (n + 1) "interest" [x0, x1, x2] Q = TL.wpSs tb.G (run tb.G pr n) b_interest [.fz x0, .fz x1, .fz x2] ⟨fun _ => Q (.fz .none) [], fun r _ => Q r [], fun _ => False, fun _ => False⟩ := by
  rw [run_def d_interest rfl]; exact ent_n rfl
theorem e_flows (n : Nat) (x0 : D) (Q : RV → List D → Prop) : run tb.G pr (n + 1) "flows" [x0] Q = TL.wpSs tb.G (run tb.G pr n) b_flows [.fz x0, .un, .un, .un] ⟨fun _ => Q (.fz .none) [], fun r _ => Q r [], fun _ => False, fun _ => False⟩ := by
  rw [run_def d_flows rfl]; exact ent_n rfl
theorem e_period_of (n : Nat) (x0 : D) (x1 : D) (Q : RV → List D → Prop) : run tb.G pr (n + 1) "period_of" [x0, x1] Q = TL.wpSs tb.G (run tb.G pr n) b_period_of [.fz x0, .fz x1, .un, .un] ⟨fun _ => Q (.fz .none) [], fun r _ => Q r [], fun _ => False, fun _ => False⟩ := by
  rw [run_def d_period_of rfl]; exact ent_n rfl
theorem e_row_of (n : Nat) (x0 : D) (x1 : D) (Q : RV → List D → Prop) : run tb.G pr (n + 1) "row_of" [x0, x1] Q = TL.wpSs tb.G (run tb.G pr n) b_row_of [.fz x0, .fz x1, .un, .un, .un, .un, .un, .un] ⟨fun _ => Q (.fz .none) [], fun r _ => Q r [], fun _ => False, fun _ => False⟩ := by
  rw [run_def d_row_of rfl]; exact ent_n rfl
theorem e_law_open (n : Nat) (x0 : D) (Q : RV → List D → Prop) : run tb.G pr (n + 1) "_law_open" [x0] Q = TL.wpSs tb.G (run tb.G pr n) b_law_open [.fz x0, .un, .un, .un] ⟨fun _ => Q (.fz .none) [], fun r _ => Q r [], fun _ => False, fun _ => False⟩ := by
  rw [run_def d_law_open rfl]; exact ent_n rfl
theorem e_law_spread (n : Nat) (x0 : D) (x1 : D) (Q : RV → List D → Prop) : run tb.G pr (n + 1) "_law_spread" [x0, x1] Q = TL.wpSs tb.G (run tb.G pr n) b_law_spread [.fz x0, .fz x1, .un, .un, .un, .un] ⟨fun _ => Q (.fz .none) [], fun r _ => Q r [], fun _ => False, fun _ => False⟩ := by
  rw [run_def d_law_spread rfl]; exact ent_n rfl
theorem e_law_take (n : Nat) (pd : List D) (x0 : D) (Q : RV → List D → Prop) : run tb.G pr (n + 1) "_law_take" [.list pd, x0] Q = TL.wpSs tb.G (run tb.G pr n) b_law_take [.bor pd, .fz x0, .un, .un, .un] ⟨fun ρ => Q (.fz .none) (outS ρ), fun r ρ => Q r (outS ρ), fun _ => False, fun _ => False⟩ := by
  rw [run_def d_law_take rfl]; exact ent_p rfl
theorem e_law_same (n : Nat) (x0 : D) (x1 : D) (Q : RV → List D → Prop) : run tb.G pr (n + 1) "_law_same" [x0, x1] Q = TL.wpSs tb.G (run tb.G pr n) b_law_same [.fz x0, .fz x1, .un, .un] ⟨fun _ => Q (.fz .none) [], fun r _ => Q r [], fun _ => False, fun _ => False⟩ := by
  rw [run_def d_law_same rfl]; exact ent_n rfl
theorem e_law_one_of (n : Nat) (pd : List D) (x0 : D) (Q : RV → List D → Prop) : run tb.G pr (n + 1) "_law_one_of" [.list pd, x0] Q = TL.wpSs tb.G (run tb.G pr n) b_law_one_of [.bor pd, .fz x0] ⟨fun ρ => Q (.fz .none) (outS ρ), fun r ρ => Q r (outS ρ), fun _ => False, fun _ => False⟩ := by
  rw [run_def d_law_one_of rfl]; exact ent_p rfl
theorem e_law_lengths (n : Nat) (x0 : D) (Q : RV → List D → Prop) : run tb.G pr (n + 1) "_law_lengths" [x0] Q = TL.wpSs tb.G (run tb.G pr n) b_law_lengths [.fz x0, .un] ⟨fun _ => Q (.fz .none) [], fun r _ => Q r [], fun _ => False, fun _ => False⟩ := by
  rw [run_def d_law_lengths rfl]; exact ent_n rfl
theorem e_law_day_of (n : Nat) (x0 : D) (Q : RV → List D → Prop) : run tb.G pr (n + 1) "_law_day_of" [x0] Q = TL.wpSs tb.G (run tb.G pr n) b_law_day_of [.fz x0, .un, .un, .un, .un] ⟨fun _ => Q (.fz .none) [], fun r _ => Q r [], fun _ => False, fun _ => False⟩ := by
  rw [run_def d_law_day_of rfl]; exact ent_n rfl
theorem e_law_date_of (n : Nat) (x0 : D) (Q : RV → List D → Prop) : run tb.G pr (n + 1) "_law_date_of" [x0] Q = TL.wpSs tb.G (run tb.G pr n) b_law_date_of [.fz x0, .un, .un, .un] ⟨fun _ => Q (.fz .none) [], fun r _ => Q r [], fun _ => False, fun _ => False⟩ := by
  rw [run_def d_law_date_of rfl]; exact ent_n rfl
theorem e_law_gcd (n : Nat) (x0 : D) (x1 : D) (Q : RV → List D → Prop) : run tb.G pr (n + 1) "_law_gcd" [x0, x1] Q = TL.wpSs tb.G (run tb.G pr n) b_law_gcd [.fz x0, .fz x1] ⟨fun _ => Q (.fz .none) [], fun r _ => Q r [], fun _ => False, fun _ => False⟩ := by
  rw [run_def d_law_gcd rfl]; exact ent_n rfl
theorem e_law_fraction (n : Nat) (x0 : D) (x1 : D) (Q : RV → List D → Prop) : run tb.G pr (n + 1) "_law_fraction" [x0, x1] Q = TL.wpSs tb.G (run tb.G pr n) b_law_fraction [.fz x0, .fz x1, .un] ⟨fun _ => Q (.fz .none) [], fun r _ => Q r [], fun _ => False, fun _ => False⟩ := by
  rw [run_def d_law_fraction rfl]; exact ent_n rfl
theorem e_law_plus (n : Nat) (x0 : D) (x1 : D) (Q : RV → List D → Prop) : run tb.G pr (n + 1) "_law_plus" [x0, x1] Q = TL.wpSs tb.G (run tb.G pr n) b_law_plus [.fz x0, .fz x1] ⟨fun _ => Q (.fz .none) [], fun r _ => Q r [], fun _ => False, fun _ => False⟩ := by
  rw [run_def d_law_plus rfl]; exact ent_n rfl
theorem e_law_times (n : Nat) (x0 : D) (x1 : D) (Q : RV → List D → Prop) : run tb.G pr (n + 1) "_law_times" [x0, x1] Q = TL.wpSs tb.G (run tb.G pr n) b_law_times [.fz x0, .fz x1] ⟨fun _ => Q (.fz .none) [], fun r _ => Q r [], fun _ => False, fun _ => False⟩ := by
  rw [run_def d_law_times rfl]; exact ent_n rfl
theorem e_law_sum (n : Nat) (x0 : D) (Q : RV → List D → Prop) : run tb.G pr (n + 1) "_law_sum" [x0] Q = TL.wpSs tb.G (run tb.G pr n) b_law_sum [.fz x0, .un, .un] ⟨fun _ => Q (.fz .none) [], fun r _ => Q r [], fun _ => False, fun _ => False⟩ := by
  rw [run_def d_law_sum rfl]; exact ent_n rfl
theorem e_law_draw_fraction (n : Nat) (pd : List D) (x0 : D) (Q : RV → List D → Prop) : run tb.G pr (n + 1) "_law_draw_fraction" [.list pd, x0] Q = TL.wpSs tb.G (run tb.G pr n) b_law_draw_fraction [.bor pd, .fz x0, .un] ⟨fun ρ => Q (.fz .none) (outS ρ), fun r ρ => Q r (outS ρ), fun _ => False, fun _ => False⟩ := by
  rw [run_def d_law_draw_fraction rfl]; exact ent_p rfl
theorem e_law_count (n : Nat) (x0 : D) (x1 : D) (x2 : D) (Q : RV → List D → Prop) : run tb.G pr (n + 1) "_law_count" [x0, x1, x2] Q = TL.wpSs tb.G (run tb.G pr n) b_law_count [.fz x0, .fz x1, .fz x2, .un, .un, .un, .un] ⟨fun _ => Q (.fz .none) [], fun r _ => Q r [], fun _ => False, fun _ => False⟩ := by
  rw [run_def d_law_count rfl]; exact ent_n rfl
theorem e_law_words (n : Nat) (Q : RV → List D → Prop) : run tb.G pr (n + 1) "_law_words" [] Q = TL.wpSs tb.G (run tb.G pr n) b_law_words [.un] ⟨fun _ => Q (.fz .none) [], fun r _ => Q r [], fun _ => False, fun _ => False⟩ := by
  rw [run_def d_law_words rfl]; exact ent_n rfl
theorem e_law_draw_days (n : Nat) (pd : List D) (x0 : D) (x1 : D) (Q : RV → List D → Prop) : run tb.G pr (n + 1) "_law_draw_days" [.list pd, x0, x1] Q = TL.wpSs tb.G (run tb.G pr n) b_law_draw_days [.bor pd, .fz x0, .fz x1, .un, .un] ⟨fun ρ => Q (.fz .none) (outS ρ), fun r ρ => Q r (outS ρ), fun _ => False, fun _ => False⟩ := by
  rw [run_def d_law_draw_days rfl]; exact ent_p rfl
theorem e_law_draw_bond (n : Nat) (pd : List D) (x0 : D) (x1 : D) (Q : RV → List D → Prop) : run tb.G pr (n + 1) "_law_draw_bond" [.list pd, x0, x1] Q = TL.wpSs tb.G (run tb.G pr n) b_law_draw_bond [.bor pd, .fz x0, .fz x1, .un, .un, .un, .un, .un] ⟨fun ρ => Q (.fz .none) (outS ρ), fun r ρ => Q r (outS ρ), fun _ => False, fun _ => False⟩ := by
  rw [run_def d_law_draw_bond rfl]; exact ent_p rfl
theorem e_law_owed (n : Nat) (x0 : D) (x1 : D) (Q : RV → List D → Prop) : run tb.G pr (n + 1) "_law_owed" [x0, x1] Q = TL.wpSs tb.G (run tb.G pr n) b_law_owed [.fz x0, .fz x1] ⟨fun _ => Q (.fz .none) [], fun r _ => Q r [], fun _ => False, fun _ => False⟩ := by
  rw [run_def d_law_owed rfl]; exact ent_n rfl
theorem e_law_interest (n : Nat) (x0 : D) (x1 : D) (x2 : D) (x3 : D) (Q : RV → List D → Prop) : run tb.G pr (n + 1) "_law_interest" [x0, x1, x2, x3] Q = TL.wpSs tb.G (run tb.G pr n) b_law_interest [.fz x0, .fz x1, .fz x2, .fz x3, .un, .un, .un, .un, .un] ⟨fun _ => Q (.fz .none) [], fun r _ => Q r [], fun _ => False, fun _ => False⟩ := by
  rw [run_def d_law_interest rfl]; exact ent_n rfl
theorem e_law_flows (n : Nat) (x0 : D) (Q : RV → List D → Prop) : run tb.G pr (n + 1) "_law_flows" [x0] Q = TL.wpSs tb.G (run tb.G pr n) b_law_flows [.fz x0, .un, .un, .un] ⟨fun _ => Q (.fz .none) [], fun r _ => Q r [], fun _ => False, fun _ => False⟩ := by
  rw [run_def d_law_flows rfl]; exact ent_n rfl
theorem e_law_row_of (n : Nat) (x0 : D) (x1 : D) (Q : RV → List D → Prop) : run tb.G pr (n + 1) "_law_row_of" [x0, x1] Q = TL.wpSs tb.G (run tb.G pr n) b_law_row_of [.fz x0, .fz x1, .un, .un, .un, .un, .un, .un, .un] ⟨fun _ => Q (.fz .none) [], fun r _ => Q r [], fun _ => False, fun _ => False⟩ := by
  rw [run_def d_law_row_of rfl]; exact ent_n rfl
theorem e_law (n : Nat) (x0 : D) (Q : RV → List D → Prop) : run tb.G pr (n + 1) "law" [x0] Q = TL.wpSs tb.G (run tb.G pr n) b_law [.fz x0, .un, .un, .un, .un, .un, .un, .un, .un, .un, .un] ⟨fun _ => Q (.fz .none) [], fun r _ => Q r [], fun _ => False, fun _ => False⟩ := by
  rw [run_def d_law rfl]; exact ent_n rfl
end Pr
end
section
namespace Pr
open PySem TL
/-! ### loops over given items -/
theorem lc_nil {own : List Nat} {t : TG} {test : Slots → (Bool → Slots → Prop) → Prop} {elt : WE} {acc : List D} {ρ : Slots} {k : List D → Slots → Prop} : lcGo own t test elt [] acc ρ k = k acc ρ := propext Iff.rfl
theorem lc_cons {own : List Nat} {t : TG} {test : Slots → (Bool → Slots → Prop) → Prop} {elt : WE} {d : D} {ds acc : List D} {ρ : Slots} {k : List D → Slots → Prop} : lcGo own t test elt (d :: ds) acc ρ k = wpTG t (.fz d) (wipeS ρ own) fun ρ1 => test ρ1 fun b ρ2 =>
    if b = true then elt ρ2 fun r ρ3 => acc.length < sizeLine ∧ lcGo own t test elt ds (acc ++ [r.d]) ρ3 k else lcGo own t test elt ds acc ρ2 k := propext Iff.rfl
theorem fo_nil {t : TG} {body : Slots → WEnds → Prop} {ρ : Slots} {E : WEnds} : forGo t body [] ρ E = E.nx ρ := propext Iff.rfl
theorem fo_cons {t : TG} {body : Slots → WEnds → Prop} {d : D} {ds : List D} {ρ : Slots} {E : WEnds} : forGo t body (d :: ds) ρ E = wpTG t (.fz d) ρ fun ρ1 => body ρ1 { nx := fun ρ2 => forGo t body ds ρ2 E, rt := E.rt, bk := E.nx, ct := fun ρ2 => forGo t body ds ρ2 E } := propext Iff.rfl
/-- a slot that may be stored to -/
def nb : Sl → Bool
  | .bor _ => false
  | _ => true
theorem cs_nb {s : Sl} {ρ : Slots} (h : nb s = true) : canSet (s :: ρ) 0 = True := by
  cases s with
  | un => exact cs_un
  | fz d => exact cs_fz
  | own d => exact cs_own
  | bor d => cases h
theorem nb_h {s : Sl} (h : s.held = false) : nb s = true := by cases s <;> first | rfl | exact nomatch h
/-! ### likeness of trees -/
mutual
theorem eqv_refl : ∀ d : D, d.canLay0 = true → PyData.eqv d d = true
  | .none, _ => by simp [PyData.eqv]
  | .bool _, _ => by simp [PyData.eqv]
  | .int _, _ => by simp [PyData.eqv]
  | .str _, _ => by simp [PyData.eqv]
  | .list xs, h => by rw [PyData.eqv]; exact eqvs_refl xs (by simpa [PyData.canLay0] using h)
  | .tuple xs, h => by rw [PyData.eqv]; exact eqvs_refl xs (by simpa [PyData.canLay0] using h)
  | .dict _, h => by simp [PyData.canLay0] at h
theorem eqvs_refl : ∀ ds : List D, PyData.canLayAll0 ds = true → PyData.eqvAll ds ds = true
  | [], _ => by simp [PyData.eqvAll]
  | d :: ds, h => by
    rw [PyData.canLayAll0, Bool.and_eq_true] at h
    rw [PyData.eqvAll, eqv_refl d h.1, eqvs_refl ds h.2]; rfl
end
/-- trees without bools, texts or dicts: whole numbers in tuples and lists -/
def numD : Nat → D → Bool
  | _, .none => true
  | _, .int _ => true
  | k + 1, .list xs => xs.all (numD k)
  | k + 1, .tuple xs => xs.all (numD k)
  | _, _ => false
theorem num_all {k : Nat} : ∀ {xs : List D}, (∀ x ∈ xs, x.canLay0 = true ∧ x.depth ≤ k) → PyData.canLayAll0 xs = true ∧ PyData.depthAll xs ≤ k
  | [], _ => by simp [PyData.canLayAll0, PyData.depthAll]
  | x :: xs, h => by
    have h1 := h x List.mem_cons_self
    have h2 := num_all (xs := xs) fun y hy => h y (List.mem_cons_of_mem _ hy)
    rw [PyData.canLayAll0, PyData.depthAll, h1.1, h2.1]
    exact ⟨rfl, by omega⟩
theorem num_lay : ∀ (k : Nat) (d : D), numD k d = true → d.canLay0 = true ∧ d.depth ≤ k
  | k, .none, _ => by simp [PyData.canLay0, PyData.depth]
  | k, .int _, _ => by simp [PyData.canLay0, PyData.depth]
  | k + 1, .list xs, h => by
    rw [numD, List.all_eq_true] at h
    have := num_all fun x hx => num_lay k x (h x hx)
    rw [PyData.canLay0, PyData.depth]; exact ⟨this.1, by omega⟩
  | k + 1, .tuple xs, h => by
    rw [numD, List.all_eq_true] at h
    have := num_all fun x hx => num_lay k x (h x hx)
    rw [PyData.canLay0, PyData.depth]; exact ⟨this.1, by omega⟩
  | k, .bool _, h => by cases k <;> simp [numD] at h
  | k, .str _, h => by cases k <;> simp [numD] at h
  | k, .dict _, h => by cases k <;> simp [numD] at h
theorem num_shp {k : Nat} {d : D} (hk : k ≤ 64) (h : numD k d = true) : SeqAt.shaped d = true := by
  have := num_lay k d h
  unfold SeqAt.shaped
  rw [this.1, Bool.true_and]
  exact decide_eq_true (by omega)
theorem num_eqs {k : Nat} (ih : ∀ d e : D, numD k d = true → numD k e = true → (PyData.eqv d e = true ↔ d = e)) : ∀ (xs ys : List D), xs.all (numD k) = true → ys.all (numD k) = true → (PyData.eqvAll xs ys = true ↔ xs = ys)
  | [], [], _, _ => by simp [PyData.eqvAll]
  | [], _ :: _, _, _ => by simp [PyData.eqvAll]
  | _ :: _, [], _, _ => by simp [PyData.eqvAll]
  | x :: xs, y :: ys, h, g => by
    rw [List.all_cons, Bool.and_eq_true] at h g
    rw [PyData.eqvAll, Bool.and_eq_true, ih x y h.1 g.1, num_eqs ih xs ys h.2 g.2, List.cons.injEq]
theorem num_eq : ∀ (k : Nat) (d e : D), numD k d = true → numD k e = true → (PyData.eqv d e = true ↔ d = e)
  | k + 1, .list xs, .list ys, h, g => by
    rw [PyData.eqv, num_eqs (num_eq k) xs ys (by simpa [numD] using h) (by simpa [numD] using g), PyData.list.injEq]
  | k + 1, .tuple xs, .tuple ys, h, g => by
    rw [PyData.eqv, num_eqs (num_eq k) xs ys (by simpa [numD] using h) (by simpa [numD] using g), PyData.tuple.injEq]
  | k, .none, e, h, g => by cases e <;> simp_all [PyData.eqv, numD]
  | k, .int i, e, h, g => by cases e <;> simp_all [PyData.eqv, numD]
  | k + 1, .list xs, .none, h, g => by simp [PyData.eqv]
  | k + 1, .list xs, .int _, h, g => by simp [PyData.eqv]
  | k + 1, .list xs, .tuple _, h, g => by simp [PyData.eqv]
  | k + 1, .tuple xs, .none, h, g => by simp [PyData.eqv]
  | k + 1, .tuple xs, .int _, h, g => by simp [PyData.eqv]
  | k + 1, .tuple xs, .list _, h, g => by simp [PyData.eqv]
theorem eqok_num (k : Nat) {d e : D} (hk : k ≤ 64) (h : numD k d = true) (g : numD k e = true) : EqOk d e := .inr ⟨num_shp hk h, num_shp hk g⟩
theorem eqv_yes (k : Nat) {d : D} (h : numD k d = true) : PyData.eqv d d = true := (num_eq k d d h h).mpr rfl
theorem eqv_no (k : Nat) {d e : D} (h : numD k d = true) (g : numD k e = true) (n : d ≠ e) : PyData.eqv d e = false := by
  cases q : PyData.eqv d e with
  | false => rfl
  | true => exact absurd ((num_eq k d e h g).mp q) n
/-! ### pieces of a body -/
def dropS : Nat → CSs → CSs
  | 0, l => l
  | k + 1, .cons _ r => dropS k r
  | _ + 1, .nil => .nil
def takeS : Nat → CSs → CSs
  | 0, _ => .nil
  | k + 1, .cons s r => .cons s (takeS k r)
  | _ + 1, .nil => .nil
def cbody : CSs → CSs
  | .cons (.for _ _ b) _ => b
  | .cons (.whl _ b) _ => b
  | _ => .nil
theorem split_ok {G : String → Option D} {C : CallW} : ∀ (k : Nat) (l : CSs) (ρ : Slots) (E : WEnds), TL.wpSs G C l ρ E = TL.wpSs G C (takeS k l) ρ ⟨fun ρ' => TL.wpSs G C (dropS k l) ρ' E, E.rt, E.bk, E.ct⟩
  | 0, l, ρ, E => by rw [takeS, dropS]; simp only [TL.wpSs]
  | k + 1, .nil, ρ, E => by rw [takeS, dropS]; simp only [TL.wpSs]
  | k + 1, .cons s r, ρ, E => by
    rw [takeS, dropS]
    simp only [TL.wpSs]
    have : (fun ρ1 => TL.wpSs G C r ρ1 E) = fun ρ1 => TL.wpSs G C (takeS k r) ρ1 ⟨fun ρ' => TL.wpSs G C (dropS k r) ρ' E, E.rt, E.bk, E.ct⟩ := funext fun ρ1 => split_ok k r ρ1 E
    rw [this]
/-- statements that lead from the one state to the other, or amid a loop's body to its next turn -/
def Piece (G : String → Option D) (C : CallW) (l : CSs) (P R N : Slots → Prop) : Prop := ∀ (ρ : Slots) (n1 : Slots → Prop) (n2 : RV → Slots → Prop) (n3 n4 : Slots → Prop), P ρ → (∀ ρ', R ρ' → n1 ρ') → (∀ ρ', N ρ' → n4 ρ') → TL.wpSs G C l ρ ⟨n1, n2, n3, n4⟩
theorem Piece.seq {G : String → Option D} {C : CallW} (k : Nat) {l : CSs} {P M R N : Slots → Prop} (h1 : Piece G C (takeS k l) P M N) (h2 : Piece G C (dropS k l) M R N) : Piece G C l P R N := fun ρ n1 n2 n3 n4 p r n => by
  rw [split_ok k]
  exact h1 _ _ _ _ _ p (fun ρ' m => h2 _ _ _ _ _ m r n) n
theorem Piece.imp {G : String → Option D} {C : CallW} {l : CSs} {P P' R R' N N' : Slots → Prop} (h : Piece G C l P R N) (hp : ∀ ρ, P' ρ → P ρ) (hr : ∀ ρ, R ρ → R' ρ) (hn : ∀ ρ, N ρ → N' ρ) : Piece G C l P' R' N' := fun ρ n1 n2 n3 n4 p r n => h _ _ _ _ _ (hp _ p) (fun ρ' m => r _ (hr _ m)) (fun ρ' m => n _ (hn _ m))
/-- nothing goes to the next turn -/
abbrev No : Slots → Prop := fun _ => False
/-! ### the script's pen -/
def penD (cs : List Int) (a v : Int) : List D := [.list (cs.map .int), .int a, .int v]
def PenOk (b : Int) (pd : List D) : Prop := ∃ (cs : List Int) (a v : Int), pd = penD cs a v ∧ 0 ≤ a ∧ a ≤ b ∧ cs.length ≤ 63
theorem PenOk.mono {a b : Int} {pd : List D} (h : PenOk a pd) (e : a ≤ b) : PenOk b pd := by
  obtain ⟨cs, x, v, e1, a0, a1, cl⟩ := h
  exact ⟨cs, x, v, e1, a0, by omega, cl⟩
def primes : List Int := [2147483629, 2147483587, 2147483579, 2147483563, 2147483549, 2147483543, 2147483497, 2147483489, 2147483477, 2147483423, 2147483399, 2147483353, 2147483323]
theorem primes_ok (k : Nat) (h : k < 13) : 1 ≤ primes.getD k 0 ∧ primes.getD k 0 ≤ 2147483629 := by
  have : ∀ k, k < 13 → 1 ≤ primes.getD k 0 ∧ primes.getD k 0 ≤ 2147483629 := by decide
  exact this k h
theorem at_primes {k : Int} {P : D → Prop} (h0 : 0 ≤ k) (h1 : k < 13) : (∃ d, L2.atI [PyData.int 2147483629, .int 2147483587, .int 2147483579, .int 2147483563, .int 2147483549, .int 2147483543, .int 2147483497, .int 2147483489, .int 2147483477, .int 2147483423, .int 2147483399, .int 2147483353, .int 2147483323] k = some d ∧ P d) = P (.int (primes.getD k.toNat 0)) :=
  at_ints (ns := primes) h0 h1
theorem fm_lt {a b : Int} (h : 1 ≤ b) : 0 ≤ a.fmod b ∧ a.fmod b < b := by
  rw [fmod_n (by omega)]
  exact ⟨Int.emod_nonneg _ (by omega), Int.emod_lt_of_pos _ (by omega)⟩
theorem spread_ok (n : Nat) (c a : Int) (Q : RV → List D → Prop) (h0 : 0 ≤ a) (h1 : a ≤ 1000000) (q : ∀ v : Int, Q (.fz (.int v)) []) : run tb.G pr (n + 1) "_law_spread" [.int c, .int a] Q := by
  rw [e_law_spread]; unfold b_law_spread
  have k1 : 0 ≤ a % 13 ∧ a % 13 < 13 := by omega
  have k2 : 0 ≤ (a + 5) % 13 ∧ (a + 5) % 13 < 13 := by omega
  have k3 : 0 ≤ (a + 7) % 13 ∧ (a + 7) % 13 < 13 := by omega
  simp only [↓TL.x_var, ↓TL.x_lit, ↓TL.x_glb, ↓TL.x_tup, ↓TL.x_lst, ↓TL.x_emp, ↓TL.x_rvs, ↓TL.x_met, ↓TL.x_dc1, ↓TL.x_dc2, ↓TL.x_bin, ↓TL.x_neg, ↓TL.x_nt, ↓TL.x_cmp, ↓TL.x_chn, ↓TL.x_and, ↓TL.x_or, ↓TL.x_ife, ↓TL.x_idx, ↓TL.x_slc, ↓TL.x_call, ↓TL.x_pcall, ↓TL.x_bl1, ↓TL.x_bl2, ↓TL.x_isi, ↓TL.x_pop, ↓TL.x_lc, ↓TL.x_lc2, ↓TL.x_nil, ↓TL.x_cons, ↓TL.x_no, ↓TL.x_so, ↓TL.x_tof, ↓TL.x_tand, ↓TL.x_tor, ↓TL.x_tnt, ↓TL.x_tite, ↓TL.x_ctno, ↓TL.x_ctso, ↓TL.x_iof, ↓TL.x_irng1, ↓TL.x_irng2, ↓TL.x_irng3, ↓TL.x_ienum, ↓TL.x_izip, ↓TL.x_irev, ↓TL.s_asg_, ↓TL.s_par_, ↓TL.s_sub_, ↓TL.s_aug_, ↓TL.s_swp_, ↓TL.s_augs_, ↓TL.s_subW, ↓TL.s_exp_, ↓TL.s_app_, ↓TL.s_ite_, ↓TL.s_for_, ↓TL.s_whl_, ↓TL.s_retN_, ↓TL.s_brk_, ↓TL.s_cnt_, ↓TL.s_pas_, ↓TL.ss_nil_, ↓TL.ss_cons_, ↓TL.o_dc1, ↓TL.s_ret_dc1, ↓TL.o_dc2, ↓TL.s_ret_dc2, ↓TL.o_emp, ↓TL.s_ret_emp, ↓TL.o_rvs, ↓TL.s_ret_rvs, ↓TL.o_met, ↓TL.s_ret_met, ↓TL.o_lit, ↓TL.s_ret_lit, ↓TL.o_glb, ↓TL.s_ret_glb, ↓TL.o_tup, ↓TL.s_ret_tup, ↓TL.o_lst, ↓TL.s_ret_lst, ↓TL.o_bin, ↓TL.s_ret_bin, ↓TL.o_neg, ↓TL.s_ret_neg, ↓TL.o_nt, ↓TL.s_ret_nt, ↓TL.o_cmp, ↓TL.s_ret_cmp, ↓TL.o_chn, ↓TL.s_ret_chn, ↓TL.o_and, ↓TL.s_ret_and, ↓TL.o_or, ↓TL.s_ret_or, ↓TL.o_ife, ↓TL.s_ret_ife, ↓TL.o_idx, ↓TL.s_ret_idx, ↓TL.o_slc, ↓TL.s_ret_slc, ↓TL.o_call, ↓TL.s_ret_call, ↓TL.o_pcall, ↓TL.s_ret_pcall, ↓TL.o_bl1, ↓TL.s_ret_bl1, ↓TL.o_bl2, ↓TL.s_ret_bl2, ↓TL.o_isi, ↓TL.s_ret_isi, ↓TL.o_pop, ↓TL.s_ret_pop, ↓TL.o_lc, ↓TL.s_ret_lc, ↓TL.o_lc2, ↓TL.s_ret_lc2, ↓TL.o_var_, ↓TL.s_retv_, ↓TL.l_val, ↓TL.l_slot, ↓TL.tg_fz, ↓TL.tg_own, ↓TL.tg_tup, ↓TL.tg_nil, ↓TL.tg_cons, ↓TL.wv_fz, ↓TL.wv_own, ↓TL.wv_s, ↓TL.lk_fz, ↓TL.lk_own, ↓TL.lk_bor, ↓TL.lk_s, ↓TL.cs_s, ↓TL.cs_un, ↓TL.cs_fz, ↓TL.cs_own, ↓TL.hd_own, ↓TL.hd_bor, ↓TL.hd_s, ↓TL.sh_own, ↓TL.sh_bor, ↓TL.sh_s, ↓TL.st_0, ↓TL.st_s, ↓TL.fr_nil, ↓TL.fr_cons, ↓TL.wp_nil, ↓TL.wp_cons, ↓TL.bk_nil, ↓TL.bk_cons, ↓TL.b_addI, ↓TL.b_subI, ↓TL.b_mulI, ↓TL.b_divI, ↓TL.b_modI, ↓TL.b_powI, ↓TL.b_addS, ↓TL.b_addT, ↓TL.b_addL, ↓TL.b_mulL, ↓TL.b_mulT, ↓TL.a_add, ↓TL.a_sub, ↓TL.a_mul, ↓TL.c_Eq_int, ↓TL.c_Eq_bool, ↓TL.c_Eq_str, ↓TL.c_Eq_tuple, ↓TL.c_Eq_list, ↓TL.c_NotEq_int, ↓TL.c_NotEq_bool, ↓TL.c_NotEq_str, ↓TL.c_NotEq_tuple, ↓TL.c_NotEq_list, ↓TL.c_Lt, ↓TL.c_LtE, ↓TL.c_Gt, ↓TL.c_GtE, ↓TL.c_LtE_b, ↓TL.c_Is_b, ↓TL.c_Is_n, ↓TL.c_IsNot_b, ↓TL.c_IsNot_n, ↓TL.c_In_tuple, ↓TL.c_In_list, ↓TL.c_NotIn_tuple, ↓TL.c_NotIn_list, ↓TL.t_non, ↓TL.t_bl, ↓TL.t_int, ↓TL.t_str, ↓TL.t_lst, ↓TL.t_tup, ↓TL.i_lst, ↓TL.i_tup, ↓TL.sl_lst, ↓TL.sl_tup, ↓TL.as_i, ↓TL.as_b, ↓TL.it_l, ↓TL.it_t, ↓TL.ls_l, ↓TL.zp_n, ↓TL.zp_f, ↓TL.zp_s, ↓TL.rv_l, ↓TL.rv_t, ↓TL.m_sw, ↓TL.m_ew, ↓TL.m_ix, ↓TL.m_ixd, ↓TL.tm_ixd, ↓TL.tm_sw, ↓TL.tm_ew, ↓TL.tm_ix, ↓TL.c_Lt_t, ↓TL.f_lenL, ↓TL.f_lenT, ↓TL.f_lenS, ↓TL.f_abs, ↓TL.f_min, ↓TL.f_max, ↓TL.f_sum, ↓TL.f_all, ↓TL.f_any, ↓TL.f_sort, ↓TL.f_ssetL, ↓TL.f_ssetT, ↓TL.f_trng, ↓TL.f_denL, ↓TL.f_denT, ↓TL.f_tupL, ↓TL.f_tupT, ↓TL.f_lstL, ↓TL.f_lstT, ↓TL.f_intI, ↓TL.f_intB, ↓TL.f_str, ↓TL.g_min, ↓TL.g_max, ↓TL.rd_fz, ↓TL.rd_own, ↓TL.rs_fz, ↓TL.rs_own, ↓TL.ou_b, ↓TL.at_l0, ↓TL.at_l1, ↓TL.at_l2, ↓TL.at_l3, ↓TL.at_l4, ↓TL.at_l5, ↓TL.at_l6, ↓TL.at_l7, ↓TL.ix_l0, ↓TL.ix_l1, ↓TL.ix_l2, ↓TL.ix_l3, ↓TL.ix_l4, ↓TL.ix_l5, ↓TL.ix_l6, ↓TL.ix_l7, ↓TL.ix_l8, ↓TL.ix_l9, ↓TL.ix_l10, ↓TL.ix_l11, ↓TL.ix_l12, TL.isStr, TL.flatD, TL.inD, TL.isiD, TL.tyD, TL.isNone, TL.eqv_int, TL.eqv_bool, TL.eqv_str, TL.sh_int, TL.sh_bool, TL.sz_le, TL.sz_lt, TL.Sl.held, List.map_cons, List.map_nil, List.cons_append, List.nil_append, List.append_nil, List.length_cons, List.length_nil, List.length_map, List.length_set, List.set_cons_zero, List.set_cons_succ, Nat.reduceLT, List.all_cons, List.all_nil, List.any_cons, List.any_nil, List.zip_cons_cons, List.zip_nil_left, List.zip_nil_right, List.foldl_cons, List.foldl_nil, List.getD_cons_zero, List.getD_cons_succ, List.mem_cons, List.not_mem_nil, forall_eq_or_imp, forall_eq, or_false, false_or, true_or, or_true, true_and, and_true, false_and, and_false, false_implies, implies_true, forall_const, ↓reduceIte, if_true, if_false, Bool.false_eq_true, Bool.true_and, Bool.and_true, Bool.false_and, Bool.and_false, Bool.or_false, Bool.false_or, Bool.or_true, Bool.true_or, Bool.not_true, Bool.not_false, Bool.and_eq_true, Bool.or_eq_true, Bool.not_eq_true', decide_eq_true_eq, decide_eq_false_iff_not, ne_eq, not_false_eq_true, not_true_eq_false, reduceCtorEq, decide_true, decide_false, Nat.reduceAdd, Nat.reduceLeDiff, Nat.reduceEqDiff, TL.all_isInt, TL.map_intOf, TL.all_isBool, TL.map_boolOf, TL.take_ints, TL.drop_ints, List.take_succ_cons, List.take_zero, List.drop_succ_cons, List.drop_zero, List.take_nil, List.drop_nil, TL.fmod_n, TL.fdiv_n, TL.cut_to, TL.cut_from, TL.cut_mid, Int.reduceEq, Int.reduceNe, Int.reduceNeg, Int.reduceAdd, Int.reduceMul, Int.reduceSub, Int.reduceLT, Int.reduceLE, Int.reduceGT, Int.reduceGE, Int.reducePow, Int.reduceToNat, Int.add_zero, Int.zero_add, String.reduceEq, String.reduceBEq, at_primes k1.1 k1.2, at_primes k2.1 k2.2, at_primes k3.1 k3.2]
  refine ⟨⟨by decide, by decide, by decide⟩, ?_⟩
  split
  · exact q _
  obtain ⟨p1, p1'⟩ := primes_ok (a % 13).toNat (by omega)
  obtain ⟨p2, p2'⟩ := primes_ok ((a + 5) % 13).toNat (by omega)
  obtain ⟨p3, p3'⟩ := primes_ok ((a + 7) % 13).toNat (by omega)
  generalize primes.getD (a % 13).toNat 0 = u1 at *
  generalize primes.getD ((a + 5) % 13).toNat 0 = u2 at *
  generalize primes.getD ((a + 7) % 13).toNat 0 = u3 at *
  have hm : 0 ≤ c % 1000000007 ∧ c % 1000000007 < 1000000007 := by omega
  have hm2 : 0 ≤ c % 65537 ∧ c % 65537 < 65537 := by omega
  generalize c % 1000000007 = c1 at *
  generalize c % 65537 = c2 at *
  have hx := mulB (a := c1) (b := 2 * a + 69069) (A := 1000000007) (B := 2069069) hm.1 (by omega) (by omega) (by omega)
  refine ⟨mok (by omega) (by omega) (by omega) (by omega), mok (by omega) (by omega) (by omega) (by omega), mok (by omega) (by omega) (by omega) (by omega), ⟨by decide, by decide, by omega⟩, by omega, ?_⟩
  generalize c1 * (2 * a + 69069) + a * 40503 + 977 = x at *
  have h3 := fm_lt (a := x ^ 3) p1
  generalize (x ^ 3).fmod u1 = one at *
  have hy := mulB (a := one) (b := a + 3) (A := 2147483629) (B := 1000003) h3.1 (by omega) (by omega) (by omega)
  refine ⟨mok (by omega) (by omega) (by omega) (by omega), ⟨by decide, by decide, by omega⟩, by omega, ?_⟩
  generalize one * (a + 3) + c2 + 5 = y at *
  have h4 := fm_lt (a := y ^ 5) p2
  generalize (y ^ 5).fmod u2 = two at *
  refine ⟨⟨by decide, by decide, by omega⟩, by omega, mok (by omega) (by omega) (by omega) (by omega), mok (by omega) (by omega) (by omega) (by omega), q _⟩
/-- one cell of the script is drawn from -/
theorem take_ok (n : Nat) {b : Int} {pd : List D} (m : Int) (Q : RV → List D → Prop) (hp : PenOk b pd) (hb : b ≤ 1000000) (h0 : 0 < m) (h1 : m < 2 ^ 2000)
    (q : ∀ (x : Int) (pd' : List D), 0 ≤ x → x < m → PenOk (b + 1) pd' → Q (.fz (.int x)) pd') : run tb.G pr (n + 2) "_law_take" [.list pd, .int m] Q := by
  obtain ⟨cs, a, v, rfl, a0, a1, cl⟩ := hp
  rw [e_law_take]; unfold b_law_take penD
  have fin : ∀ a' v' : Int, 0 ≤ a' → a' ≤ b + 1 → ¬m = 0 ∧ DivOk m ∧ Q (.fz (.int (v'.fmod m))) [.list (cs.map .int), .int a', .int (v'.fdiv m)] := fun a' v' h1' h2' =>
    ⟨by omega, dok (by omega) (by omega) h1, q _ _ (fm_lt (by omega)).1 (fm_lt (by omega)).2 ⟨cs, a', _, rfl, h1', h2', cl⟩⟩
  walk_at "S"
  split
  · split
    · rw [at_ints a0 (by omega)]
      refine spread_ok n _ a _ a0 (by omega) fun v' => ?_
      walk_at "S"
      exact fin _ _ (by omega) (by omega)
    · split
      · have hm := Int.emod_nonneg (a * 5 + 3) (b := (cs.length : Int)) (by omega)
        have hl := Int.emod_lt_of_pos (a * 5 + 3) (b := (cs.length : Int)) (by omega)
        rw [fmod_n (by omega), at_ints hm hl]
        refine ⟨mok (by omega) (by omega) (by omega) (by omega), by omega, ⟨by decide, by decide, by decide⟩, ?_⟩
        walk_at "S"
        refine ⟨by omega, ?_⟩
        refine spread_ok n _ a _ a0 (by omega) fun v' => ?_
        walk_at "S"
        exact fin _ _ (by omega) (by omega)
      · refine spread_ok n _ a _ a0 (by omega) fun v' => ?_
        walk_at "S"
        exact fin _ _ (by omega) (by omega)
  · exact fin _ _ a0 (by omega)
theorem one_of_ok (n : Nat) {b : Int} {pd xs : List D} (Q : RV → List D → Prop) (hp : PenOk b pd) (hb : b ≤ 1000000) (h0 : xs ≠ []) (h1 : xs.length ≤ 1000000)
    (q : ∀ x ∈ xs, ∀ pd', PenOk (b + 1) pd' → Q (.fz x) pd') : run tb.G pr (n + 3) "_law_one_of" [.list pd, .list xs] Q := by
  rw [e_law_one_of]; unfold b_law_one_of
  walk_at "S"
  have hl : 0 < xs.length := List.length_pos_iff.mpr h0
  refine take_ok n _ _ hp hb (by omega) (by omega) fun x pd' x0 x1 hp' => ?_
  walk_at "S"
  rw [at_get x0 x1]
  refine q _ ?_ _ hp'
  rw [List.getD_eq_getElem?_getD, List.getElem?_eq_getElem (by omega)]
  exact List.getElem_mem _
theorem one_ofT_ok (n : Nat) {b : Int} {pd xs : List D} (Q : RV → List D → Prop) (hp : PenOk b pd) (hb : b ≤ 1000000) (h0 : xs ≠ []) (h1 : xs.length ≤ 1000000)
    (q : ∀ x ∈ xs, ∀ pd', PenOk (b + 1) pd' → Q (.fz x) pd') : run tb.G pr (n + 3) "_law_one_of" [.list pd, .tuple xs] Q := by
  rw [e_law_one_of]; unfold b_law_one_of
  walk_at "S"
  have hl : 0 < xs.length := List.length_pos_iff.mpr h0
  refine take_ok n _ _ hp hb (by omega) (by omega) fun x pd' x0 x1 hp' => ?_
  walk_at "S"
  rw [at_get x0 x1]
  refine q _ ?_ _ hp'
  rw [List.getD_eq_getElem?_getD, List.getElem?_eq_getElem (by omega)]
  exact List.getElem_mem _
theorem open_ok (n : Nat) (ns : List Int) (Q : RV → List D → Prop) (hl : ns.length ≤ 63) (q : ∀ pd, PenOk 0 pd → Q (.own pd) []) : run tb.G pr (n + 1) "_law_open" [.list (ns.map .int)] Q := by
  rw [e_law_open]; unfold b_law_open
  walk_at "S"
  refine for_inv (fun _ ρ => ∃ cs : List Int, cs.length = (ns.take 12).length ∧ ∃ x y, ρ = [.fz (.list (ns.map .int)), .own (cs.map .int), x, y] ∧ x.held = false ∧ y.held = false) ⟨ns.take 12, rfl, .un, .un, by rw [List.map_take], rfl, rfl⟩ (fun i d ρ n1 n4 hd hp k1 k4 => ?_) fun ρ hp => ?_
  · obtain ⟨cs, hc, x, y, rfl, hx, hy⟩ := hp
    obtain ⟨c, hc2, rfl⟩ := enum_get hd
    rw [List.getElem?_map] at hc2
    obtain ⟨z, hz, rfl⟩ := Option.map_eq_some_iff.mp hc2
    rw [List.getElem?_take] at hz
    split at hz
    · rw [List.getElem?_drop] at hz
      have hlen := (List.getElem?_eq_some_iff.mp hz).1
      have hcl : cs.length = 12 := by rw [hc, List.length_take]; omega
      have cx : canSet [.fz (.list (ns.map .int)), .own (cs.map .int), x, y] 2 := by cases x <;> first | exact trivial | exact nomatch hx
      have cy : canSet [.fz (.list (ns.map .int)), .own (cs.map .int), .fz (.int i), y] 3 := by cases y <;> first | exact trivial | exact nomatch hy
      rw [tg_tup, tg_cons, tg_fz]
      refine ⟨cx, ?_⟩
      walk_at "S"
      refine ⟨cy, ?_⟩
      rw [at_ints (by omega) (by omega)]
      walk_at "S"
      rw [ix_at (by omega) (by omega)]
      refine k1 _ ⟨cs.set (i % 12 : Int).toNat (cs.getD (i % 12 : Int).toNat 0 + z), by rw [List.length_set]; exact hc, .fz (.int i), .fz (.int z), ?_, rfl, rfl⟩
      rw [List.map_set]
    · cases hz
  · obtain ⟨cs, hc, x, y, rfl, hx, hy⟩ := hp
    walk_at "S"
    exact q _ ⟨cs, 0, 0, rfl, by omega, by omega, by rw [hc, List.length_take]; omega⟩
end Pr
end
section
namespace Pr
open PySem TL
/-- trees that the law's likeness looks through -/
def SameT : Nat → D → Prop
  | 0, _ => False
  | k + 1, .tuple xs => xs.length ≤ 900 ∧ ∀ x ∈ xs, SameT k x
  | k + 1, .list xs => xs.length ≤ 900 ∧ ∀ x ∈ xs, SameT k x
  | k + 1, .dict _ => False
  | k + 1, _ => True
theorem all_flat (k : Nat) : (List.replicate k (PyData.bool true)).all flatD = true := by
  rw [List.all_eq_true]
  intro x hx
  rw [List.eq_of_mem_replicate hx]; rfl
theorem in_true (k : Nat) : (List.replicate k (PyData.bool true)).any (fun y => PyData.eqv y (PyData.bool false)) = false := by
  rw [List.any_eq_false]
  intro x hx
  rw [List.eq_of_mem_replicate hx]; decide
theorem same_lc (n k : Nat) (d : D) (xs : List D) (hl : xs.length ≤ 900) (Q : List D → Slots → Prop) (ih : ∀ x ∈ xs, ∀ Q, Q (.fz (.bool true)) [] → run tb.G pr (n + k) "_law_same" [x, x] Q)
    (q : ∀ ρ, Q (List.replicate xs.length (.bool true)) ρ) : lcGo [2, 3] (.tup (.cons (.var 2) (.cons (.var 3) .nil))) (TL.wpCT tb.G (run tb.G pr (n + k)) .no) (TL.wpE tb.G (run tb.G pr (n + k)) (.call "_law_same" (.cons (.var 2) (.cons (.var 3) .nil)))) (pairs xs xs) [] [.fz d, .fz d, .un, .un] Q := by
  refine lc_inv (fun i acc ρ => acc = List.replicate i (.bool true) ∧ ∃ x y, ρ = [.fz d, .fz d, x, y]) ⟨rfl, _, _, rfl⟩ (fun i e acc ρ K he hp kk => ?_) fun acc ρ hp => ?_
  · obtain ⟨rfl, x, y, rfl⟩ := hp
    obtain ⟨a, b, ha, hb, rfl⟩ := pairs_get he
    rw [ha] at hb; cases hb
    walk_at "S"
    refine ih a (List.mem_of_getElem? ha) _ ?_
    have hi := (List.getElem?_eq_some_iff.mp ha).1
    simp only [↓TL.x_var, ↓TL.x_lit, ↓TL.x_glb, ↓TL.x_tup, ↓TL.x_lst, ↓TL.x_emp, ↓TL.x_rvs, ↓TL.x_met, ↓TL.x_dc1, ↓TL.x_dc2, ↓TL.x_bin, ↓TL.x_neg, ↓TL.x_nt, ↓TL.x_cmp, ↓TL.x_chn, ↓TL.x_and, ↓TL.x_or, ↓TL.x_ife, ↓TL.x_idx, ↓TL.x_slc, ↓TL.x_call, ↓TL.x_pcall, ↓TL.x_bl1, ↓TL.x_bl2, ↓TL.x_isi, ↓TL.x_pop, ↓TL.x_lc, ↓TL.x_lc2, ↓TL.x_nil, ↓TL.x_cons, ↓TL.x_no, ↓TL.x_so, ↓TL.x_tof, ↓TL.x_tand, ↓TL.x_tor, ↓TL.x_tnt, ↓TL.x_tite, ↓TL.x_ctno, ↓TL.x_ctso, ↓TL.x_iof, ↓TL.x_irng1, ↓TL.x_irng2, ↓TL.x_irng3, ↓TL.x_ienum, ↓TL.x_izip, ↓TL.x_irev, ↓TL.s_asg_, ↓TL.s_par_, ↓TL.s_sub_, ↓TL.s_aug_, ↓TL.s_swp_, ↓TL.s_augs_, ↓TL.s_subW, ↓TL.s_exp_, ↓TL.s_app_, ↓TL.s_ite_, ↓TL.s_for_, ↓TL.s_whl_, ↓TL.s_retN_, ↓TL.s_brk_, ↓TL.s_cnt_, ↓TL.s_pas_, ↓TL.ss_nil_, ↓TL.ss_cons_, ↓TL.o_dc1, ↓TL.s_ret_dc1, ↓TL.o_dc2, ↓TL.s_ret_dc2, ↓TL.o_emp, ↓TL.s_ret_emp, ↓TL.o_rvs, ↓TL.s_ret_rvs, ↓TL.o_met, ↓TL.s_ret_met, ↓TL.o_lit, ↓TL.s_ret_lit, ↓TL.o_glb, ↓TL.s_ret_glb, ↓TL.o_tup, ↓TL.s_ret_tup, ↓TL.o_lst, ↓TL.s_ret_lst, ↓TL.o_bin, ↓TL.s_ret_bin, ↓TL.o_neg, ↓TL.s_ret_neg, ↓TL.o_nt, ↓TL.s_ret_nt, ↓TL.o_cmp, ↓TL.s_ret_cmp, ↓TL.o_chn, ↓TL.s_ret_chn, ↓TL.o_and, ↓TL.s_ret_and, ↓TL.o_or, ↓TL.s_ret_or, ↓TL.o_ife, ↓TL.s_ret_ife, ↓TL.o_idx, ↓TL.s_ret_idx, ↓TL.o_slc, ↓TL.s_ret_slc, ↓TL.o_call, ↓TL.s_ret_call, ↓TL.o_pcall, ↓TL.s_ret_pcall, ↓TL.o_bl1, ↓TL.s_ret_bl1, ↓TL.o_bl2, ↓TL.s_ret_bl2, ↓TL.o_isi, ↓TL.s_ret_isi, ↓TL.o_pop, ↓TL.s_ret_pop, ↓TL.o_lc, ↓TL.s_ret_lc, ↓TL.o_lc2, ↓TL.s_ret_lc2, ↓TL.o_var_, ↓TL.s_retv_, ↓TL.l_val, ↓TL.l_slot, ↓TL.tg_fz, ↓TL.tg_own, ↓TL.tg_tup, ↓TL.tg_nil, ↓TL.tg_cons, ↓TL.wv_fz, ↓TL.wv_own, ↓TL.wv_s, ↓TL.lk_fz, ↓TL.lk_own, ↓TL.lk_bor, ↓TL.lk_s, ↓TL.cs_s, ↓TL.cs_un, ↓TL.cs_fz, ↓TL.cs_own, ↓TL.hd_own, ↓TL.hd_bor, ↓TL.hd_s, ↓TL.sh_own, ↓TL.sh_bor, ↓TL.sh_s, ↓TL.st_0, ↓TL.st_s, ↓TL.fr_nil, ↓TL.fr_cons, ↓TL.wp_nil, ↓TL.wp_cons, ↓TL.bk_nil, ↓TL.bk_cons, ↓TL.b_addI, ↓TL.b_subI, ↓TL.b_mulI, ↓TL.b_divI, ↓TL.b_modI, ↓TL.b_powI, ↓TL.b_addS, ↓TL.b_addT, ↓TL.b_addL, ↓TL.b_mulL, ↓TL.b_mulT, ↓TL.a_add, ↓TL.a_sub, ↓TL.a_mul, ↓TL.c_Eq_int, ↓TL.c_Eq_bool, ↓TL.c_Eq_str, ↓TL.c_Eq_tuple, ↓TL.c_Eq_list, ↓TL.c_NotEq_int, ↓TL.c_NotEq_bool, ↓TL.c_NotEq_str, ↓TL.c_NotEq_tuple, ↓TL.c_NotEq_list, ↓TL.c_Lt, ↓TL.c_LtE, ↓TL.c_Gt, ↓TL.c_GtE, ↓TL.c_LtE_b, ↓TL.c_Is_b, ↓TL.c_Is_n, ↓TL.c_IsNot_b, ↓TL.c_IsNot_n, ↓TL.c_In_tuple, ↓TL.c_In_list, ↓TL.c_NotIn_tuple, ↓TL.c_NotIn_list, ↓TL.t_non, ↓TL.t_bl, ↓TL.t_int, ↓TL.t_str, ↓TL.t_lst, ↓TL.t_tup, ↓TL.i_lst, ↓TL.i_tup, ↓TL.sl_lst, ↓TL.sl_tup, ↓TL.as_i, ↓TL.as_b, ↓TL.it_l, ↓TL.it_t, ↓TL.ls_l, ↓TL.zp_n, ↓TL.zp_f, ↓TL.zp_s, ↓TL.rv_l, ↓TL.rv_t, ↓TL.m_sw, ↓TL.m_ew, ↓TL.m_ix, ↓TL.m_ixd, ↓TL.tm_ixd, ↓TL.tm_sw, ↓TL.tm_ew, ↓TL.tm_ix, ↓TL.c_Lt_t, ↓TL.f_lenL, ↓TL.f_lenT, ↓TL.f_lenS, ↓TL.f_abs, ↓TL.f_min, ↓TL.f_max, ↓TL.f_sum, ↓TL.f_all, ↓TL.f_any, ↓TL.f_sort, ↓TL.f_ssetL, ↓TL.f_ssetT, ↓TL.f_trng, ↓TL.f_denL, ↓TL.f_denT, ↓TL.f_tupL, ↓TL.f_tupT, ↓TL.f_lstL, ↓TL.f_lstT, ↓TL.f_intI, ↓TL.f_intB, ↓TL.f_str, ↓TL.g_min, ↓TL.g_max, ↓TL.rd_fz, ↓TL.rd_own, ↓TL.rs_fz, ↓TL.rs_own, ↓TL.ou_b, ↓TL.at_l0, ↓TL.at_l1, ↓TL.at_l2, ↓TL.at_l3, ↓TL.at_l4, ↓TL.at_l5, ↓TL.at_l6, ↓TL.at_l7, ↓TL.ix_l0, ↓TL.ix_l1, ↓TL.ix_l2, ↓TL.ix_l3, ↓TL.ix_l4, ↓TL.ix_l5, ↓TL.ix_l6, ↓TL.ix_l7, ↓TL.ix_l8, ↓TL.ix_l9, ↓TL.ix_l10, ↓TL.ix_l11, ↓TL.ix_l12, TL.isStr, TL.flatD, TL.inD, TL.isiD, TL.tyD, TL.isNone, TL.eqv_int, TL.eqv_bool, TL.eqv_str, TL.sh_int, TL.sh_bool, TL.sz_le, TL.sz_lt, TL.Sl.held, List.map_cons, List.map_nil, List.cons_append, List.nil_append, List.append_nil, List.length_cons, List.length_nil, List.length_map, List.length_set, List.set_cons_zero, List.set_cons_succ, Nat.reduceLT, List.all_cons, List.all_nil, List.any_cons, List.any_nil, List.zip_cons_cons, List.zip_nil_left, List.zip_nil_right, List.foldl_cons, List.foldl_nil, List.getD_cons_zero, List.getD_cons_succ, List.mem_cons, List.not_mem_nil, forall_eq_or_imp, forall_eq, or_false, false_or, true_or, or_true, true_and, and_true, false_and, and_false, false_implies, implies_true, forall_const, ↓reduceIte, if_true, if_false, Bool.false_eq_true, Bool.true_and, Bool.and_true, Bool.false_and, Bool.and_false, Bool.or_false, Bool.false_or, Bool.or_true, Bool.true_or, Bool.not_true, Bool.not_false, Bool.and_eq_true, Bool.or_eq_true, Bool.not_eq_true', decide_eq_true_eq, decide_eq_false_iff_not, ne_eq, not_false_eq_true, not_true_eq_false, reduceCtorEq, decide_true, decide_false, Nat.reduceAdd, Nat.reduceLeDiff, Nat.reduceEqDiff, TL.all_isInt, TL.map_intOf, TL.all_isBool, TL.map_boolOf, TL.take_ints, TL.drop_ints, List.take_succ_cons, List.take_zero, List.drop_succ_cons, List.drop_zero, List.take_nil, List.drop_nil, TL.fmod_n, TL.fdiv_n, TL.cut_to, TL.cut_from, TL.cut_mid, Int.reduceEq, Int.reduceNe, Int.reduceNeg, Int.reduceAdd, Int.reduceMul, Int.reduceSub, Int.reduceLT, Int.reduceLE, Int.reduceGT, Int.reduceGE, Int.reducePow, Int.reduceToNat, Int.add_zero, Int.zero_add, String.reduceEq, String.reduceBEq, List.length_replicate]
    refine ⟨?_, kk _ _ ⟨List.replicate_succ'.symm, _, _, rfl⟩⟩
    rw [sz_lt (by omega)]; trivial
  · obtain ⟨rfl, _⟩ := hp
    rw [pairs_len, Nat.min_self]
    exact q _
theorem same_ok (n : Nat) : ∀ (k : Nat) (d : D), SameT k d → ∀ (Q : RV → List D → Prop), Q (.fz (.bool true)) [] → run tb.G pr (n + k) "_law_same" [d, d] Q := by
  intro k
  induction k with
  | zero => intro d h; exact h.elim
  | succ k ih =>
    intro d h Q q
    show run tb.G pr (n + k + 1) "_law_same" [d, d] Q
    rw [e_law_same]; unfold b_law_same
    cases d with
    | none => walk_at "S"; exact q
    | bool b => walk_at "S"; exact q
    | int i => walk_at "S"; exact q
    | str x => walk_at "S"; exact q
    | dict x => exact h.elim
    | tuple xs =>
      walk_at "S"
      exact same_lc n k _ xs h.1 _ (fun x hx Q q => ih x (h.2 x hx) Q q) (fun ρ => by simp only [↓TL.x_var, ↓TL.x_lit, ↓TL.x_glb, ↓TL.x_tup, ↓TL.x_lst, ↓TL.x_emp, ↓TL.x_rvs, ↓TL.x_met, ↓TL.x_dc1, ↓TL.x_dc2, ↓TL.x_bin, ↓TL.x_neg, ↓TL.x_nt, ↓TL.x_cmp, ↓TL.x_chn, ↓TL.x_and, ↓TL.x_or, ↓TL.x_ife, ↓TL.x_idx, ↓TL.x_slc, ↓TL.x_call, ↓TL.x_pcall, ↓TL.x_bl1, ↓TL.x_bl2, ↓TL.x_isi, ↓TL.x_pop, ↓TL.x_lc, ↓TL.x_lc2, ↓TL.x_nil, ↓TL.x_cons, ↓TL.x_no, ↓TL.x_so, ↓TL.x_tof, ↓TL.x_tand, ↓TL.x_tor, ↓TL.x_tnt, ↓TL.x_tite, ↓TL.x_ctno, ↓TL.x_ctso, ↓TL.x_iof, ↓TL.x_irng1, ↓TL.x_irng2, ↓TL.x_irng3, ↓TL.x_ienum, ↓TL.x_izip, ↓TL.x_irev, ↓TL.s_asg_, ↓TL.s_par_, ↓TL.s_sub_, ↓TL.s_aug_, ↓TL.s_swp_, ↓TL.s_augs_, ↓TL.s_subW, ↓TL.s_exp_, ↓TL.s_app_, ↓TL.s_ite_, ↓TL.s_for_, ↓TL.s_whl_, ↓TL.s_retN_, ↓TL.s_brk_, ↓TL.s_cnt_, ↓TL.s_pas_, ↓TL.ss_nil_, ↓TL.ss_cons_, ↓TL.o_dc1, ↓TL.s_ret_dc1, ↓TL.o_dc2, ↓TL.s_ret_dc2, ↓TL.o_emp, ↓TL.s_ret_emp, ↓TL.o_rvs, ↓TL.s_ret_rvs, ↓TL.o_met, ↓TL.s_ret_met, ↓TL.o_lit, ↓TL.s_ret_lit, ↓TL.o_glb, ↓TL.s_ret_glb, ↓TL.o_tup, ↓TL.s_ret_tup, ↓TL.o_lst, ↓TL.s_ret_lst, ↓TL.o_bin, ↓TL.s_ret_bin, ↓TL.o_neg, ↓TL.s_ret_neg, ↓TL.o_nt, ↓TL.s_ret_nt, ↓TL.o_cmp, ↓TL.s_ret_cmp, ↓TL.o_chn, ↓TL.s_ret_chn, ↓TL.o_and, ↓TL.s_ret_and, ↓TL.o_or, ↓TL.s_ret_or, ↓TL.o_ife, ↓TL.s_ret_ife, ↓TL.o_idx, ↓TL.s_ret_idx, ↓TL.o_slc, ↓TL.s_ret_slc, ↓TL.o_call, ↓TL.s_ret_call, ↓TL.o_pcall, ↓TL.s_ret_pcall, ↓TL.o_bl1, ↓TL.s_ret_bl1, ↓TL.o_bl2, ↓TL.s_ret_bl2, ↓TL.o_isi, ↓TL.s_ret_isi, ↓TL.o_pop, ↓TL.s_ret_pop, ↓TL.o_lc, ↓TL.s_ret_lc, ↓TL.o_lc2, ↓TL.s_ret_lc2, ↓TL.o_var_, ↓TL.s_retv_, ↓TL.l_val, ↓TL.l_slot, ↓TL.tg_fz, ↓TL.tg_own, ↓TL.tg_tup, ↓TL.tg_nil, ↓TL.tg_cons, ↓TL.wv_fz, ↓TL.wv_own, ↓TL.wv_s, ↓TL.lk_fz, ↓TL.lk_own, ↓TL.lk_bor, ↓TL.lk_s, ↓TL.cs_s, ↓TL.cs_un, ↓TL.cs_fz, ↓TL.cs_own, ↓TL.hd_own, ↓TL.hd_bor, ↓TL.hd_s, ↓TL.sh_own, ↓TL.sh_bor, ↓TL.sh_s, ↓TL.st_0, ↓TL.st_s, ↓TL.fr_nil, ↓TL.fr_cons, ↓TL.wp_nil, ↓TL.wp_cons, ↓TL.bk_nil, ↓TL.bk_cons, ↓TL.b_addI, ↓TL.b_subI, ↓TL.b_mulI, ↓TL.b_divI, ↓TL.b_modI, ↓TL.b_powI, ↓TL.b_addS, ↓TL.b_addT, ↓TL.b_addL, ↓TL.b_mulL, ↓TL.b_mulT, ↓TL.a_add, ↓TL.a_sub, ↓TL.a_mul, ↓TL.c_Eq_int, ↓TL.c_Eq_bool, ↓TL.c_Eq_str, ↓TL.c_Eq_tuple, ↓TL.c_Eq_list, ↓TL.c_NotEq_int, ↓TL.c_NotEq_bool, ↓TL.c_NotEq_str, ↓TL.c_NotEq_tuple, ↓TL.c_NotEq_list, ↓TL.c_Lt, ↓TL.c_LtE, ↓TL.c_Gt, ↓TL.c_GtE, ↓TL.c_LtE_b, ↓TL.c_Is_b, ↓TL.c_Is_n, ↓TL.c_IsNot_b, ↓TL.c_IsNot_n, ↓TL.c_In_tuple, ↓TL.c_In_list, ↓TL.c_NotIn_tuple, ↓TL.c_NotIn_list, ↓TL.t_non, ↓TL.t_bl, ↓TL.t_int, ↓TL.t_str, ↓TL.t_lst, ↓TL.t_tup, ↓TL.i_lst, ↓TL.i_tup, ↓TL.sl_lst, ↓TL.sl_tup, ↓TL.as_i, ↓TL.as_b, ↓TL.it_l, ↓TL.it_t, ↓TL.ls_l, ↓TL.zp_n, ↓TL.zp_f, ↓TL.zp_s, ↓TL.rv_l, ↓TL.rv_t, ↓TL.m_sw, ↓TL.m_ew, ↓TL.m_ix, ↓TL.m_ixd, ↓TL.tm_ixd, ↓TL.tm_sw, ↓TL.tm_ew, ↓TL.tm_ix, ↓TL.c_Lt_t, ↓TL.f_lenL, ↓TL.f_lenT, ↓TL.f_lenS, ↓TL.f_abs, ↓TL.f_min, ↓TL.f_max, ↓TL.f_sum, ↓TL.f_all, ↓TL.f_any, ↓TL.f_sort, ↓TL.f_ssetL, ↓TL.f_ssetT, ↓TL.f_trng, ↓TL.f_denL, ↓TL.f_denT, ↓TL.f_tupL, ↓TL.f_tupT, ↓TL.f_lstL, ↓TL.f_lstT, ↓TL.f_intI, ↓TL.f_intB, ↓TL.f_str, ↓TL.g_min, ↓TL.g_max, ↓TL.rd_fz, ↓TL.rd_own, ↓TL.rs_fz, ↓TL.rs_own, ↓TL.ou_b, ↓TL.at_l0, ↓TL.at_l1, ↓TL.at_l2, ↓TL.at_l3, ↓TL.at_l4, ↓TL.at_l5, ↓TL.at_l6, ↓TL.at_l7, ↓TL.ix_l0, ↓TL.ix_l1, ↓TL.ix_l2, ↓TL.ix_l3, ↓TL.ix_l4, ↓TL.ix_l5, ↓TL.ix_l6, ↓TL.ix_l7, ↓TL.ix_l8, ↓TL.ix_l9, ↓TL.ix_l10, ↓TL.ix_l11, ↓TL.ix_l12, TL.isStr, TL.flatD, TL.inD, TL.isiD, TL.tyD, TL.isNone, TL.eqv_int, TL.eqv_bool, TL.eqv_str, TL.sh_int, TL.sh_bool, TL.sz_le, TL.sz_lt, TL.Sl.held, List.map_cons, List.map_nil, List.cons_append, List.nil_append, List.append_nil, List.length_cons, List.length_nil, List.length_map, List.length_set, List.set_cons_zero, List.set_cons_succ, Nat.reduceLT, List.all_cons, List.all_nil, List.any_cons, List.any_nil, List.zip_cons_cons, List.zip_nil_left, List.zip_nil_right, List.foldl_cons, List.foldl_nil, List.getD_cons_zero, List.getD_cons_succ, List.mem_cons, List.not_mem_nil, forall_eq_or_imp, forall_eq, or_false, false_or, true_or, or_true, true_and, and_true, false_and, and_false, false_implies, implies_true, forall_const, ↓reduceIte, if_true, if_false, Bool.false_eq_true, Bool.true_and, Bool.and_true, Bool.false_and, Bool.and_false, Bool.or_false, Bool.false_or, Bool.or_true, Bool.true_or, Bool.not_true, Bool.not_false, Bool.and_eq_true, Bool.or_eq_true, Bool.not_eq_true', decide_eq_true_eq, decide_eq_false_iff_not, ne_eq, not_false_eq_true, not_true_eq_false, reduceCtorEq, decide_true, decide_false, Nat.reduceAdd, Nat.reduceLeDiff, Nat.reduceEqDiff, TL.all_isInt, TL.map_intOf, TL.all_isBool, TL.map_boolOf, TL.take_ints, TL.drop_ints, List.take_succ_cons, List.take_zero, List.drop_succ_cons, List.drop_zero, List.take_nil, List.drop_nil, TL.fmod_n, TL.fdiv_n, TL.cut_to, TL.cut_from, TL.cut_mid, Int.reduceEq, Int.reduceNe, Int.reduceNeg, Int.reduceAdd, Int.reduceMul, Int.reduceSub, Int.reduceLT, Int.reduceLE, Int.reduceGT, Int.reduceGE, Int.reducePow, Int.reduceToNat, Int.add_zero, Int.zero_add, String.reduceEq, String.reduceBEq, all_flat, in_true]; exact q)
    | list xs =>
      walk_at "S"
      exact same_lc n k _ xs h.1 _ (fun x hx Q q => ih x (h.2 x hx) Q q) (fun ρ => by simp only [↓TL.x_var, ↓TL.x_lit, ↓TL.x_glb, ↓TL.x_tup, ↓TL.x_lst, ↓TL.x_emp, ↓TL.x_rvs, ↓TL.x_met, ↓TL.x_dc1, ↓TL.x_dc2, ↓TL.x_bin, ↓TL.x_neg, ↓TL.x_nt, ↓TL.x_cmp, ↓TL.x_chn, ↓TL.x_and, ↓TL.x_or, ↓TL.x_ife, ↓TL.x_idx, ↓TL.x_slc, ↓TL.x_call, ↓TL.x_pcall, ↓TL.x_bl1, ↓TL.x_bl2, ↓TL.x_isi, ↓TL.x_pop, ↓TL.x_lc, ↓TL.x_lc2, ↓TL.x_nil, ↓TL.x_cons, ↓TL.x_no, ↓TL.x_so, ↓TL.x_tof, ↓TL.x_tand, ↓TL.x_tor, ↓TL.x_tnt, ↓TL.x_tite, ↓TL.x_ctno, ↓TL.x_ctso, ↓TL.x_iof, ↓TL.x_irng1, ↓TL.x_irng2, ↓TL.x_irng3, ↓TL.x_ienum, ↓TL.x_izip, ↓TL.x_irev, ↓TL.s_asg_, ↓TL.s_par_, ↓TL.s_sub_, ↓TL.s_aug_, ↓TL.s_swp_, ↓TL.s_augs_, ↓TL.s_subW, ↓TL.s_exp_, ↓TL.s_app_, ↓TL.s_ite_, ↓TL.s_for_, ↓TL.s_whl_, ↓TL.s_retN_, ↓TL.s_brk_, ↓TL.s_cnt_, ↓TL.s_pas_, ↓TL.ss_nil_, ↓TL.ss_cons_, ↓TL.o_dc1, ↓TL.s_ret_dc1, ↓TL.o_dc2, ↓TL.s_ret_dc2, ↓TL.o_emp, ↓TL.s_ret_emp, ↓TL.o_rvs, ↓TL.s_ret_rvs, ↓TL.o_met, ↓TL.s_ret_met, ↓TL.o_lit, ↓TL.s_ret_lit, ↓TL.o_glb, ↓TL.s_ret_glb, ↓TL.o_tup, ↓TL.s_ret_tup, ↓TL.o_lst, ↓TL.s_ret_lst, ↓TL.o_bin, ↓TL.s_ret_bin, ↓TL.o_neg, ↓TL.s_ret_neg, ↓TL.o_nt, ↓TL.s_ret_nt, ↓TL.o_cmp, ↓TL.s_ret_cmp, ↓TL.o_chn, ↓TL.s_ret_chn, ↓TL.o_and, ↓TL.s_ret_and, ↓TL.o_or, ↓TL.s_ret_or, ↓TL.o_ife, ↓TL.s_ret_ife, ↓TL.o_idx, ↓TL.s_ret_idx, ↓TL.o_slc, ↓TL.s_ret_slc, ↓TL.o_call, ↓TL.s_ret_call, ↓TL.o_pcall, ↓TL.s_ret_pcall, ↓TL.o_bl1, ↓TL.s_ret_bl1, ↓TL.o_bl2, ↓TL.s_ret_bl2, ↓TL.o_isi, ↓TL.s_ret_isi, ↓TL.o_pop, ↓TL.s_ret_pop, ↓TL.o_lc, ↓TL.s_ret_lc, ↓TL.o_lc2, ↓TL.s_ret_lc2, ↓TL.o_var_, ↓TL.s_retv_, ↓TL.l_val, ↓TL.l_slot, ↓TL.tg_fz, ↓TL.tg_own, ↓TL.tg_tup, ↓TL.tg_nil, ↓TL.tg_cons, ↓TL.wv_fz, ↓TL.wv_own, ↓TL.wv_s, ↓TL.lk_fz, ↓TL.lk_own, ↓TL.lk_bor, ↓TL.lk_s, ↓TL.cs_s, ↓TL.cs_un, ↓TL.cs_fz, ↓TL.cs_own, ↓TL.hd_own, ↓TL.hd_bor, ↓TL.hd_s, ↓TL.sh_own, ↓TL.sh_bor, ↓TL.sh_s, ↓TL.st_0, ↓TL.st_s, ↓TL.fr_nil, ↓TL.fr_cons, ↓TL.wp_nil, ↓TL.wp_cons, ↓TL.bk_nil, ↓TL.bk_cons, ↓TL.b_addI, ↓TL.b_subI, ↓TL.b_mulI, ↓TL.b_divI, ↓TL.b_modI, ↓TL.b_powI, ↓TL.b_addS, ↓TL.b_addT, ↓TL.b_addL, ↓TL.b_mulL, ↓TL.b_mulT, ↓TL.a_add, ↓TL.a_sub, ↓TL.a_mul, ↓TL.c_Eq_int, ↓TL.c_Eq_bool, ↓TL.c_Eq_str, ↓TL.c_Eq_tuple, ↓TL.c_Eq_list, ↓TL.c_NotEq_int, ↓TL.c_NotEq_bool, ↓TL.c_NotEq_str, ↓TL.c_NotEq_tuple, ↓TL.c_NotEq_list, ↓TL.c_Lt, ↓TL.c_LtE, ↓TL.c_Gt, ↓TL.c_GtE, ↓TL.c_LtE_b, ↓TL.c_Is_b, ↓TL.c_Is_n, ↓TL.c_IsNot_b, ↓TL.c_IsNot_n, ↓TL.c_In_tuple, ↓TL.c_In_list, ↓TL.c_NotIn_tuple, ↓TL.c_NotIn_list, ↓TL.t_non, ↓TL.t_bl, ↓TL.t_int, ↓TL.t_str, ↓TL.t_lst, ↓TL.t_tup, ↓TL.i_lst, ↓TL.i_tup, ↓TL.sl_lst, ↓TL.sl_tup, ↓TL.as_i, ↓TL.as_b, ↓TL.it_l, ↓TL.it_t, ↓TL.ls_l, ↓TL.zp_n, ↓TL.zp_f, ↓TL.zp_s, ↓TL.rv_l, ↓TL.rv_t, ↓TL.m_sw, ↓TL.m_ew, ↓TL.m_ix, ↓TL.m_ixd, ↓TL.tm_ixd, ↓TL.tm_sw, ↓TL.tm_ew, ↓TL.tm_ix, ↓TL.c_Lt_t, ↓TL.f_lenL, ↓TL.f_lenT, ↓TL.f_lenS, ↓TL.f_abs, ↓TL.f_min, ↓TL.f_max, ↓TL.f_sum, ↓TL.f_all, ↓TL.f_any, ↓TL.f_sort, ↓TL.f_ssetL, ↓TL.f_ssetT, ↓TL.f_trng, ↓TL.f_denL, ↓TL.f_denT, ↓TL.f_tupL, ↓TL.f_tupT, ↓TL.f_lstL, ↓TL.f_lstT, ↓TL.f_intI, ↓TL.f_intB, ↓TL.f_str, ↓TL.g_min, ↓TL.g_max, ↓TL.rd_fz, ↓TL.rd_own, ↓TL.rs_fz, ↓TL.rs_own, ↓TL.ou_b, ↓TL.at_l0, ↓TL.at_l1, ↓TL.at_l2, ↓TL.at_l3, ↓TL.at_l4, ↓TL.at_l5, ↓TL.at_l6, ↓TL.at_l7, ↓TL.ix_l0, ↓TL.ix_l1, ↓TL.ix_l2, ↓TL.ix_l3, ↓TL.ix_l4, ↓TL.ix_l5, ↓TL.ix_l6, ↓TL.ix_l7, ↓TL.ix_l8, ↓TL.ix_l9, ↓TL.ix_l10, ↓TL.ix_l11, ↓TL.ix_l12, TL.isStr, TL.flatD, TL.inD, TL.isiD, TL.tyD, TL.isNone, TL.eqv_int, TL.eqv_bool, TL.eqv_str, TL.sh_int, TL.sh_bool, TL.sz_le, TL.sz_lt, TL.Sl.held, List.map_cons, List.map_nil, List.cons_append, List.nil_append, List.append_nil, List.length_cons, List.length_nil, List.length_map, List.length_set, List.set_cons_zero, List.set_cons_succ, Nat.reduceLT, List.all_cons, List.all_nil, List.any_cons, List.any_nil, List.zip_cons_cons, List.zip_nil_left, List.zip_nil_right, List.foldl_cons, List.foldl_nil, List.getD_cons_zero, List.getD_cons_succ, List.mem_cons, List.not_mem_nil, forall_eq_or_imp, forall_eq, or_false, false_or, true_or, or_true, true_and, and_true, false_and, and_false, false_implies, implies_true, forall_const, ↓reduceIte, if_true, if_false, Bool.false_eq_true, Bool.true_and, Bool.and_true, Bool.false_and, Bool.and_false, Bool.or_false, Bool.false_or, Bool.or_true, Bool.true_or, Bool.not_true, Bool.not_false, Bool.and_eq_true, Bool.or_eq_true, Bool.not_eq_true', decide_eq_true_eq, decide_eq_false_iff_not, ne_eq, not_false_eq_true, not_true_eq_false, reduceCtorEq, decide_true, decide_false, Nat.reduceAdd, Nat.reduceLeDiff, Nat.reduceEqDiff, TL.all_isInt, TL.map_intOf, TL.all_isBool, TL.map_boolOf, TL.take_ints, TL.drop_ints, List.take_succ_cons, List.take_zero, List.drop_succ_cons, List.drop_zero, List.take_nil, List.drop_nil, TL.fmod_n, TL.fdiv_n, TL.cut_to, TL.cut_from, TL.cut_mid, Int.reduceEq, Int.reduceNe, Int.reduceNeg, Int.reduceAdd, Int.reduceMul, Int.reduceSub, Int.reduceLT, Int.reduceLE, Int.reduceGT, Int.reduceGE, Int.reducePow, Int.reduceToNat, Int.add_zero, Int.zero_add, String.reduceEq, String.reduceBEq, all_flat, in_true]; exact q)
end Pr
end
section
namespace Pr
open PySem TL
theorem rat_pos (t b : Int) (hb : 0 < b) : t.fdiv (Int.gcd t b) = (Rat.divInt t b).num ∧ b.fdiv (Int.gcd t b) = (Rat.divInt t b).den := by
  rw [Int.fdiv_eq_ediv_of_dvd (Int.gcd_dvd_left ..), Int.fdiv_eq_ediv_of_dvd (Int.gcd_dvd_right ..), Rat.num_divInt, Rat.den_divInt, Int.gcd_comm b t, if_neg (by omega), Int.sign_eq_one_of_pos hb, Int.one_mul]
  refine ⟨rfl, ?_⟩
  rw [Int.natCast_ediv, Int.natAbs_of_nonneg (by omega)]
theorem rat_neg (t b : Int) (hb : b < 0) : t.fdiv (-(Int.gcd t b : Int)) = (Rat.divInt t b).num ∧ b.fdiv (-(Int.gcd t b : Int)) = (Rat.divInt t b).den := by
  rw [Int.fdiv_eq_ediv_of_dvd (Int.neg_dvd.mpr (Int.gcd_dvd_left ..)), Int.fdiv_eq_ediv_of_dvd (Int.neg_dvd.mpr (Int.gcd_dvd_right ..)), Rat.num_divInt, Rat.den_divInt, Int.gcd_comm b t, if_neg (by omega), Int.sign_eq_neg_one_of_neg hb, Int.neg_mul, Int.one_mul, Int.ediv_neg, Int.ediv_neg]
  refine ⟨?_, ?_⟩
  · rw [Int.neg_ediv_of_dvd (Int.gcd_dvd_left ..)]
  · rw [Int.natCast_ediv, show ((b.natAbs : Nat) : Int) = -b by omega, Int.neg_ediv_of_dvd (Int.gcd_dvd_right ..)]
theorem num_le (t b : Int) : (Rat.divInt t b).num.natAbs ≤ t.natAbs := by
  rw [Rat.num_divInt]
  refine Nat.le_trans (Int.natAbs_ediv_le_natAbs _ _) ?_
  rw [Int.natAbs_mul]
  rcases Int.lt_trichotomy b 0 with h | h | h
  · rw [Int.sign_eq_neg_one_of_neg h]; simp
  · subst h; simp
  · rw [Int.sign_eq_one_of_pos h]; simp
theorem den_le (t b : Int) (h : b ≠ 0) : (Rat.divInt t b).den ≤ b.natAbs := by
  rw [Rat.den_divInt, if_neg h]
  exact Nat.div_le_self _ _
/-- sizes -/
def Sz (k : Nat) (x : Int) : Prop := x.natAbs < 2 ^ k
theorem Sz.mono {k l : Nat} {x : Int} (h : Sz k x) (e : k ≤ l) : Sz l x := Nat.lt_of_lt_of_le h (Nat.pow_le_pow_right (by decide) e)
theorem Sz.mul {k l : Nat} {x y : Int} (h : Sz k x) (g : Sz l y) : Sz (k + l) (x * y) := by
  unfold Sz at *
  rw [Int.natAbs_mul, Nat.pow_add]
  exact Nat.mul_lt_mul'' h g
theorem Sz.add' {k : Nat} {x y : Int} (h : Sz k x) (g : Sz k y) : Sz (k + 1) (x + y) := by
  unfold Sz at *
  rw [Nat.pow_succ]
  have := Int.natAbs_add_le x y
  omega
theorem Sz.sub' {k : Nat} {x y : Int} (h : Sz k x) (g : Sz k y) : Sz (k + 1) (x - y) := by
  unfold Sz at *
  rw [Nat.pow_succ]
  have := Int.natAbs_sub_le x y
  omega
theorem Sz.add {k l : Nat} {x y : Int} (h : Sz k x) (g : Sz l y) : Sz (max k l + 1) (x + y) := (h.mono (Nat.le_max_left ..)).add' (g.mono (Nat.le_max_right ..))
theorem Sz.sub {k l : Nat} {x y : Int} (h : Sz k x) (g : Sz l y) : Sz (max k l + 1) (x - y) := (h.mono (Nat.le_max_left ..)).sub' (g.mono (Nat.le_max_right ..))
theorem Sz.neg {k : Nat} {x : Int} (h : Sz k x) : Sz k (-x) := by unfold Sz at *; rw [Int.natAbs_neg]; exact h
theorem Sz.le {k : Nat} {x y : Int} (h : Sz k x) (e : y.natAbs ≤ x.natAbs) : Sz k y := Nat.lt_of_le_of_lt e h
/-- fractions of such a size -/
def RS (k : Nat) (q : Rat) : Prop := Sz k q.num ∧ Sz k q.den
theorem RS.mono {k l : Nat} {q : Rat} (h : RS k q) (e : k ≤ l) : RS l q := ⟨h.1.mono e, h.2.mono e⟩
theorem RS.of {k : Nat} {t b : Int} (h : Sz k t) (g : Sz k b) (h0 : b ≠ 0) : RS k (Rat.divInt t b) := ⟨h.le (num_le t b), g.le (by rw [Int.natAbs_natCast]; exact den_le t b h0)⟩
theorem den_ne (a : Rat) : (a.den : Int) ≠ 0 := by have := a.den_pos; omega
theorem rat_add (a b : Rat) : Rat.divInt (a.num * b.den + b.num * a.den) (a.den * b.den) = a + b := by
  rw [← Rat.divInt_add_divInt _ _ (den_ne a) (den_ne b), Rat.num_divInt_den, Rat.num_divInt_den]
theorem rat_sub (a b : Rat) : Rat.divInt (a.num * b.den - b.num * a.den) (a.den * b.den) = a - b := by
  rw [← Rat.divInt_sub_divInt _ _ (den_ne a) (den_ne b), Rat.num_divInt_den, Rat.num_divInt_den]
theorem rat_mul (a b : Rat) : Rat.divInt (a.num * b.num) (a.den * b.den) = a * b := by
  rw [← Rat.divInt_mul_divInt, Rat.num_divInt_den, Rat.num_divInt_den]
theorem rat_div (a b : Rat) : Rat.divInt (a.num * b.den) (a.den * b.num) = a / b := by
  rw [Rat.div_def, ← Rat.divInt_mul_divInt, Rat.num_divInt_den, ← Rat.inv_divInt, Rat.num_divInt_den]
theorem RS.add {k l : Nat} {a b : Rat} (h : RS k a) (g : RS l b) : RS (k + l + 1) (a + b) := by
  rw [← rat_add]
  exact .of (Sz.add' (h.1.mul g.2) ((g.1.mul h.2).mono (by omega))) ((h.2.mul g.2).mono (by omega)) (Int.mul_ne_zero (den_ne a) (den_ne b))
theorem RS.sub {k l : Nat} {a b : Rat} (h : RS k a) (g : RS l b) : RS (k + l + 1) (a - b) := by
  rw [← rat_sub]
  exact .of (Sz.sub' (h.1.mul g.2) ((g.1.mul h.2).mono (by omega))) ((h.2.mul g.2).mono (by omega)) (Int.mul_ne_zero (den_ne a) (den_ne b))
theorem RS.mul {k l : Nat} {a b : Rat} (h : RS k a) (g : RS l b) : RS (k + l) (a * b) := by
  rw [← rat_mul]
  exact .of (h.1.mul g.1) (h.2.mul g.2) (Int.mul_ne_zero (den_ne a) (den_ne b))
theorem num_ne {b : Rat} (h : b ≠ 0) : b.num ≠ 0 := fun e => h (Rat.num_eq_zero.mp e)
theorem RS.div {k l : Nat} {a b : Rat} (h : RS k a) (g : RS l b) (h0 : b ≠ 0) : RS (k + l) (a / b) := by
  rw [← rat_div]
  exact .of (h.1.mul g.2) (h.2.mul g.1) (Int.mul_ne_zero (den_ne a) (num_ne h0))
theorem rat_lt (a b : Rat) : (a.num * b.den < b.num * a.den) = (a < b) := propext (Rat.lt_iff a b).symm
theorem rat_le (a b : Rat) : (a.num * b.den ≤ b.num * a.den) = (a ≤ b) := propext (Rat.le_iff a b).symm
theorem rat_red (a : Rat) : Int.gcd a.num a.den = 1 := a.reduced
theorem rat_low (a : Rat) (t b : Int) (h : b ≠ 0) (e : Rat.divInt t b = a) : a.num * b = t * a.den := by
  have := Rat.divInt_num_den (n := t) (d := b) (n' := a.num) (d' := a.den) (z' := a.den_nz) (c := a.reduced) h (by rw [e])
  obtain ⟨m, _, h1, h2⟩ := this
  rw [h1, h2]; simp only [Int.mul_comm, Int.mul_left_comm, Int.mul_assoc]
theorem gcd_step (x y : Int) : Int.gcd y (x.fmod y) = Int.gcd x y := by
  rw [Int.gcd_comm x y]
  have e : x.fmod y = x - y * x.fdiv y := by have := Int.fmod_add_mul_fdiv x y; omega
  rw [e, show x - y * x.fdiv y = x + y * (-x.fdiv y) by rw [Int.mul_neg]; omega, Int.gcd_add_mul_left_right]
theorem fmod_less (x y : Int) (h : y ≠ 0) : (x.fmod y).natAbs < y.natAbs := by
  have h1 := Int.emod_nonneg x h
  have h2 := Int.emod_lt x h
  rw [Int.fmod_eq_emod]
  by_cases g : 0 ≤ y ∨ y ∣ x
  · rw [if_pos g]; omega
  · rw [if_neg g]
    have h3 : x % y ≠ 0 := fun e => g (.inr (Int.dvd_of_emod_eq_zero e))
    omega

theorem Sz.mok {k l : Nat} {x y : Int} (h : Sz k x) (g : Sz l y) (e : k + l < 1000000) : TL.MulOk x y := by
  unfold TL.MulOk
  have a := log2_le_of h
  have b := log2_le_of g
  omega
theorem Sz.dok {k : Nat} {x : Int} (h : Sz k x) (h0 : x ≠ 0) (e : k < 9000) : DivOk x := ⟨h0, by have := log2_le_of h; omega⟩
/-- a fraction as the program has it -/
def frD (q : Rat) : D := .tuple [.int q.num, .int q.den]
theorem num_fr (a b : Int) : numD 1 (.tuple [.int a, .int b]) = true := by simp [numD]
theorem eqok_fr (a b c d : Int) : EqOk (.tuple [.int a, .int b]) (.tuple [.int c, .int d]) := eqok_num 1 (by decide) (num_fr _ _) (num_fr _ _)
theorem eqv_fr (a b : Rat) : PyData.eqv (.tuple [.int a.num, .int a.den]) (.tuple [.int b.num, .int b.den]) = decide (a = b) := by
  by_cases h : a = b
  · rw [h, eqv_yes 1 (num_fr _ _)]; simp
  · rw [eqv_no 1 (num_fr _ _) (num_fr _ _) (fun e => h ?_)]
    · simp [h]
    · simp only [PyData.tuple.injEq, List.cons.injEq, PyData.int.injEq, and_true] at e
      exact Rat.ext e.1 (by omega)
end Pr
end
local macro_rules | `(tactic| walk_at "F") => `(tactic| simp only [Pr.frD, ↓TL.x_var, ↓TL.x_lit, ↓TL.x_glb, ↓TL.x_tup, ↓TL.x_lst, ↓TL.x_emp, ↓TL.x_rvs, ↓TL.x_met, ↓TL.x_dc1, ↓TL.x_dc2, ↓TL.x_bin, ↓TL.x_neg, ↓TL.x_nt, ↓TL.x_cmp, ↓TL.x_chn, ↓TL.x_and, ↓TL.x_or, ↓TL.x_ife, ↓TL.x_idx, ↓TL.x_slc, ↓TL.x_call, ↓TL.x_pcall, ↓TL.x_bl1, ↓TL.x_bl2, ↓TL.x_isi, ↓TL.x_pop, ↓TL.x_lc, ↓TL.x_lc2, ↓TL.x_nil, ↓TL.x_cons, ↓TL.x_no, ↓TL.x_so, ↓TL.x_tof, ↓TL.x_tand, ↓TL.x_tor, ↓TL.x_tnt, ↓TL.x_tite, ↓TL.x_ctno, ↓TL.x_ctso, ↓TL.x_iof, ↓TL.x_irng1, ↓TL.x_irng2, ↓TL.x_irng3, ↓TL.x_ienum, ↓TL.x_izip, ↓TL.x_irev, ↓TL.s_asg_, ↓TL.s_par_, ↓TL.s_sub_, ↓TL.s_aug_, ↓TL.s_swp_, ↓TL.s_augs_, ↓TL.s_subW, ↓TL.s_exp_, ↓TL.s_app_, ↓TL.s_ite_, ↓TL.s_for_, ↓TL.s_whl_, ↓TL.s_retN_, ↓TL.s_brk_, ↓TL.s_cnt_, ↓TL.s_pas_, ↓TL.ss_nil_, ↓TL.ss_cons_, ↓TL.o_dc1, ↓TL.s_ret_dc1, ↓TL.o_dc2, ↓TL.s_ret_dc2, ↓TL.o_emp, ↓TL.s_ret_emp, ↓TL.o_rvs, ↓TL.s_ret_rvs, ↓TL.o_met, ↓TL.s_ret_met, ↓TL.o_lit, ↓TL.s_ret_lit, ↓TL.o_glb, ↓TL.s_ret_glb, ↓TL.o_tup, ↓TL.s_ret_tup, ↓TL.o_lst, ↓TL.s_ret_lst, ↓TL.o_bin, ↓TL.s_ret_bin, ↓TL.o_neg, ↓TL.s_ret_neg, ↓TL.o_nt, ↓TL.s_ret_nt, ↓TL.o_cmp, ↓TL.s_ret_cmp, ↓TL.o_chn, ↓TL.s_ret_chn, ↓TL.o_and, ↓TL.s_ret_and, ↓TL.o_or, ↓TL.s_ret_or, ↓TL.o_ife, ↓TL.s_ret_ife, ↓TL.o_idx, ↓TL.s_ret_idx, ↓TL.o_slc, ↓TL.s_ret_slc, ↓TL.o_call, ↓TL.s_ret_call, ↓TL.o_pcall, ↓TL.s_ret_pcall, ↓TL.o_bl1, ↓TL.s_ret_bl1, ↓TL.o_bl2, ↓TL.s_ret_bl2, ↓TL.o_isi, ↓TL.s_ret_isi, ↓TL.o_pop, ↓TL.s_ret_pop, ↓TL.o_lc, ↓TL.s_ret_lc, ↓TL.o_lc2, ↓TL.s_ret_lc2, ↓TL.o_var_, ↓TL.s_retv_, ↓TL.l_val, ↓TL.l_slot, ↓TL.tg_fz, ↓TL.tg_own, ↓TL.tg_tup, ↓TL.tg_nil, ↓TL.tg_cons, ↓TL.wv_fz, ↓TL.wv_own, ↓TL.wv_s, ↓TL.lk_fz, ↓TL.lk_own, ↓TL.lk_bor, ↓TL.lk_s, ↓TL.cs_s, ↓TL.cs_un, ↓TL.cs_fz, ↓TL.cs_own, ↓TL.hd_own, ↓TL.hd_bor, ↓TL.hd_s, ↓TL.sh_own, ↓TL.sh_bor, ↓TL.sh_s, ↓TL.st_0, ↓TL.st_s, ↓TL.fr_nil, ↓TL.fr_cons, ↓TL.wp_nil, ↓TL.wp_cons, ↓TL.bk_nil, ↓TL.bk_cons, ↓TL.b_addI, ↓TL.b_subI, ↓TL.b_mulI, ↓TL.b_divI, ↓TL.b_modI, ↓TL.b_powI, ↓TL.b_addS, ↓TL.b_addT, ↓TL.b_addL, ↓TL.b_mulL, ↓TL.b_mulT, ↓TL.a_add, ↓TL.a_sub, ↓TL.a_mul, ↓TL.c_Eq_int, ↓TL.c_Eq_bool, ↓TL.c_Eq_str, ↓TL.c_Eq_tuple, ↓TL.c_Eq_list, ↓TL.c_NotEq_int, ↓TL.c_NotEq_bool, ↓TL.c_NotEq_str, ↓TL.c_NotEq_tuple, ↓TL.c_NotEq_list, ↓TL.c_Lt, ↓TL.c_LtE, ↓TL.c_Gt, ↓TL.c_GtE, ↓TL.c_LtE_b, ↓TL.c_Is_b, ↓TL.c_Is_n, ↓TL.c_IsNot_b, ↓TL.c_IsNot_n, ↓TL.c_In_tuple, ↓TL.c_In_list, ↓TL.c_NotIn_tuple, ↓TL.c_NotIn_list, ↓TL.t_non, ↓TL.t_bl, ↓TL.t_int, ↓TL.t_str, ↓TL.t_lst, ↓TL.t_tup, ↓TL.i_lst, ↓TL.i_tup, ↓TL.sl_lst, ↓TL.sl_tup, ↓TL.as_i, ↓TL.as_b, ↓TL.it_l, ↓TL.it_t, ↓TL.ls_l, ↓TL.zp_n, ↓TL.zp_f, ↓TL.zp_s, ↓TL.rv_l, ↓TL.rv_t, ↓TL.m_sw, ↓TL.m_ew, ↓TL.m_ix, ↓TL.m_ixd, ↓TL.tm_ixd, ↓TL.tm_sw, ↓TL.tm_ew, ↓TL.tm_ix, ↓TL.c_Lt_t, ↓TL.f_lenL, ↓TL.f_lenT, ↓TL.f_lenS, ↓TL.f_abs, ↓TL.f_min, ↓TL.f_max, ↓TL.f_sum, ↓TL.f_all, ↓TL.f_any, ↓TL.f_sort, ↓TL.f_ssetL, ↓TL.f_ssetT, ↓TL.f_trng, ↓TL.f_denL, ↓TL.f_denT, ↓TL.f_tupL, ↓TL.f_tupT, ↓TL.f_lstL, ↓TL.f_lstT, ↓TL.f_intI, ↓TL.f_intB, ↓TL.f_str, ↓TL.g_min, ↓TL.g_max, ↓TL.rd_fz, ↓TL.rd_own, ↓TL.rs_fz, ↓TL.rs_own, ↓TL.ou_b, ↓TL.at_l0, ↓TL.at_l1, ↓TL.at_l2, ↓TL.at_l3, ↓TL.at_l4, ↓TL.at_l5, ↓TL.at_l6, ↓TL.at_l7, ↓TL.ix_l0, ↓TL.ix_l1, ↓TL.ix_l2, ↓TL.ix_l3, ↓TL.ix_l4, ↓TL.ix_l5, ↓TL.ix_l6, ↓TL.ix_l7, ↓TL.ix_l8, ↓TL.ix_l9, ↓TL.ix_l10, ↓TL.ix_l11, ↓TL.ix_l12, TL.isStr, TL.flatD, TL.inD, TL.isiD, TL.tyD, TL.isNone, TL.eqv_int, TL.eqv_bool, TL.eqv_str, TL.sh_int, TL.sh_bool, TL.sz_le, TL.sz_lt, TL.Sl.held, List.map_cons, List.map_nil, List.cons_append, List.nil_append, List.append_nil, List.length_cons, List.length_nil, List.length_map, List.length_set, List.set_cons_zero, List.set_cons_succ, Nat.reduceLT, List.all_cons, List.all_nil, List.any_cons, List.any_nil, List.zip_cons_cons, List.zip_nil_left, List.zip_nil_right, List.foldl_cons, List.foldl_nil, List.getD_cons_zero, List.getD_cons_succ, List.mem_cons, List.not_mem_nil, forall_eq_or_imp, forall_eq, or_false, false_or, true_or, or_true, true_and, and_true, false_and, and_false, false_implies, implies_true, forall_const, ↓reduceIte, if_true, if_false, Bool.false_eq_true, Bool.true_and, Bool.and_true, Bool.false_and, Bool.and_false, Bool.or_false, Bool.false_or, Bool.or_true, Bool.true_or, Bool.not_true, Bool.not_false, Bool.and_eq_true, Bool.or_eq_true, Bool.not_eq_true', decide_eq_true_eq, decide_eq_false_iff_not, ne_eq, not_false_eq_true, not_true_eq_false, reduceCtorEq, decide_true, decide_false, Nat.reduceAdd, Nat.reduceLeDiff, Nat.reduceEqDiff, TL.all_isInt, TL.map_intOf, TL.all_isBool, TL.map_boolOf, TL.take_ints, TL.drop_ints, List.take_succ_cons, List.take_zero, List.drop_succ_cons, List.drop_zero, List.take_nil, List.drop_nil, TL.fmod_n, TL.fdiv_n, TL.cut_to, TL.cut_from, TL.cut_mid, Int.reduceEq, Int.reduceNe, Int.reduceNeg, Int.reduceAdd, Int.reduceMul, Int.reduceSub, Int.reduceLT, Int.reduceLE, Int.reduceGT, Int.reduceGE, Int.reducePow, Int.reduceToNat, Int.add_zero, Int.zero_add, String.reduceEq, String.reduceBEq])
section
namespace Pr
open PySem TL
theorem divisor_ok (n : Nat) (a b : Int) (Q : RV → List D → Prop) (q : Q (.fz (.int (Int.gcd a b : Nat))) []) : run tb.G pr (n + 1) "divisor" [.int a, .int b] Q := by
  rw [e_divisor]; unfold b_divisor
  walk_at "S"
  refine wh_inv (m := b.natAbs) (fun m ρ => ∃ x y : Int, ρ = [.fz (.int x), .fz (.int y)] ∧ m = y.natAbs ∧ Int.gcd x y = Int.gcd a b) ⟨a, b, rfl, rfl, rfl⟩ (fun m ρ K hp kt kf => ?_)
  obtain ⟨x, y, rfl, rfl, hg⟩ := hp
  walk_at "S"
  by_cases h : y = 0
  · simp only [h, decide_true, Bool.not_true]
    refine kf _ ?_
    walk_at "S"
    subst h
    rw [Int.gcd_zero_right] at hg
    rw [hg]; exact q
  · simp only [h, decide_false, Bool.not_false]
    refine kt _ fun n1 n4 k1 k4 => ?_
    walk_at "S"
    exact ⟨h, k1 (x.fmod y).natAbs _ (fmod_less x y h) ⟨y, x.fmod y, rfl, rfl, (gcd_step x y).trans hg⟩⟩
theorem fraction_ok (n : Nat) {k : Nat} (t b : Int) (ht : Sz k t) (hb : Sz k b) (hk : k < 9000) (h : b ≠ 0) (Q : RV → List D → Prop) (q : Q (.fz (frD (Rat.divInt t b))) []) : run tb.G pr (n + 2) "fraction" [.int t, .int b] Q := by
  rw [e_fraction]; unfold b_fraction
  walk_at "S"
  refine divisor_ok n _ _ _ ?_
  have g0 : Int.gcd t b ≠ 0 := fun e => h (Int.gcd_eq_zero_iff.mp e).2
  have gs : Sz k (Int.gcd t b : Nat) := hb.le (by
    have := Int.gcd_le_natAbs_right t h
    omega)
  walk_at "S"
  rcases Int.lt_or_le b 0 with h1 | h1
  · rw [if_pos h1]
    obtain ⟨e1, e2⟩ := rat_neg t b h1
    rw [Int.zero_sub, e1, e2]
    exact ⟨gs.neg.dok (by omega) hk, gs.neg.dok (by omega) hk, q⟩
  · rw [if_neg (by omega)]
    obtain ⟨e1, e2⟩ := rat_pos t b (by omega)
    rw [e1, e2]
    exact ⟨gs.dok (by omega) hk, gs.dok (by omega) hk, q⟩
theorem plus_ok (n : Nat) {k : Nat} (a b : Rat) (ha : RS k a) (hb : RS k b) (hk : k < 4000) (Q : RV → List D → Prop) (q : Q (.fz (frD (a + b))) []) : run tb.G pr (n + 3) "plus" [frD a, frD b] Q := by
  rw [e_plus]; unfold b_plus frD
  walk_at "S"
  refine ⟨ha.1.mok hb.2 (by omega), hb.1.mok ha.2 (by omega), ha.2.mok hb.2 (by omega), ?_⟩
  refine fraction_ok (k := k + k + 1) n _ _ (Sz.add' (ha.1.mul hb.2) (hb.1.mul ha.2)) ((ha.2.mul hb.2).mono (by omega)) (by omega) (Int.mul_ne_zero (den_ne a) (den_ne b)) _ ?_
  rw [rat_add]; exact q
theorem times_ok (n : Nat) {k : Nat} (a b : Rat) (ha : RS k a) (hb : RS k b) (hk : k < 4000) (Q : RV → List D → Prop) (q : Q (.fz (frD (a * b))) []) : run tb.G pr (n + 3) "times" [frD a, frD b] Q := by
  rw [e_times]; unfold b_times frD
  walk_at "S"
  refine ⟨ha.1.mok hb.1 (by omega), ha.2.mok hb.2 (by omega), ?_⟩
  refine fraction_ok (k := k + k) n _ _ (ha.1.mul hb.1) (ha.2.mul hb.2) (by omega) (Int.mul_ne_zero (den_ne a) (den_ne b)) _ ?_
  rw [rat_mul]; exact q
end Pr
end
section
namespace Pr
open PySem TL
theorem law_gcd_ok (n : Nat) (a b : Int) (Q : RV → List D → Prop) (q : Q (.fz (.int (Int.gcd a b : Nat))) []) : run tb.G pr (n + 1) "_law_gcd" [.int a, .int b] Q := by
  rw [e_law_gcd]; unfold b_law_gcd
  walk_at "S"
  refine wh_inv (m := b.natAbs) (fun m ρ => ∃ x y : Int, ρ = [.fz (.int x), .fz (.int y)] ∧ m = y.natAbs ∧ Int.gcd x y = Int.gcd a b) ⟨a, b, rfl, rfl, rfl⟩ (fun m ρ K hp kt kf => ?_)
  obtain ⟨x, y, rfl, rfl, hg⟩ := hp
  walk_at "S"
  by_cases h : y = 0
  · simp only [h, decide_true, Bool.not_true]
    refine kf _ ?_
    walk_at "S"
    subst h
    rw [Int.gcd_zero_right] at hg
    rw [hg]; exact q
  · simp only [h, decide_false, Bool.not_false]
    refine kt _ fun n1 n4 k1 k4 => ?_
    walk_at "S"
    exact ⟨h, k1 (x.fmod y).natAbs _ (fmod_less x y h) ⟨y, x.fmod y, rfl, rfl, (gcd_step x y).trans hg⟩⟩
theorem law_fractionP_ok (n : Nat) {k : Nat} (t b : Int) (ht : Sz k t) (hb : Sz k b) (hk : k < 8990) (h : 0 < b) (Q : RV → List D → Prop) (q : Q (.fz (frD (Rat.divInt t b))) []) : run tb.G pr (n + 2) "_law_fraction" [.int t, .int b] Q := by
  rw [e_law_fraction]; unfold b_law_fraction
  walk_at "S"
  refine law_gcd_ok n _ _ _ ?_
  have g0 : Int.gcd t b ≠ 0 := fun e => by have := (Int.gcd_eq_zero_iff.mp e).2; omega
  have gs : Sz k (Int.gcd t b : Nat) := hb.le (by
    have := Int.gcd_le_natAbs_right t (show b ≠ 0 by omega)
    omega)
  walk_at "S"
  obtain ⟨e1, e2⟩ := rat_pos t b h
  simp only [e1, e2]
  exact ⟨gs.dok (by omega) (by omega), gs.dok (by omega) (by omega), q⟩
end Pr
end
section
namespace Pr
open PySem TL
theorem den_pos2 (a b : Rat) : 0 < (a.den : Int) * b.den := Int.mul_pos (by have := a.den_pos; omega) (by have := b.den_pos; omega)
theorem law_plus_ok (n : Nat) {k : Nat} (a b : Rat) (ha : RS k a) (hb : RS k b) (hk : k < 4000) (Q : RV → List D → Prop) (q : Q (.fz (frD (a + b))) []) : run tb.G pr (n + 3) "_law_plus" [frD a, frD b] Q := by
  rw [e_law_plus]; unfold b_law_plus frD
  walk_at "S"
  refine ⟨ha.1.mok hb.2 (by omega), hb.1.mok ha.2 (by omega), ha.2.mok hb.2 (by omega), ?_⟩
  refine law_fractionP_ok (k := k + k + 1) n _ _ (Sz.add' (ha.1.mul hb.2) (hb.1.mul ha.2)) ((ha.2.mul hb.2).mono (by omega)) (by omega) (den_pos2 a b) _ ?_
  rw [rat_add]; exact q
theorem law_times_ok (n : Nat) {k : Nat} (a b : Rat) (ha : RS k a) (hb : RS k b) (hk : k < 4000) (Q : RV → List D → Prop) (q : Q (.fz (frD (a * b))) []) : run tb.G pr (n + 3) "_law_times" [frD a, frD b] Q := by
  rw [e_law_times]; unfold b_law_times frD
  walk_at "S"
  refine ⟨ha.1.mok hb.1 (by omega), ha.2.mok hb.2 (by omega), ?_⟩
  refine law_fractionP_ok (k := k + k) n _ _ (ha.1.mul hb.1) (ha.2.mul hb.2) (by omega) (den_pos2 a b) _ ?_
  rw [rat_mul]; exact q
end Pr
end
section
namespace Pr
open PySem TL
/-! ### months -/
def leap (y : Int) : Bool := decide (y % 4 = 0) && (!decide (y = 1900) && !decide (y = 2100))
def mdays (y : Int) : List Int := [31, 28 + if leap y = true then 1 else 0, 31, 30, 31, 30, 31, 31, 30, 31, 30, 31]
def months : List Int := [31, 28, 31, 30, 31, 30, 31, 31, 30, 31, 30, 31]
theorem months_len : months.length = 12 := rfl
theorem g_MONTHS : tb.G "MONTHS" = some (.tuple (months.map .int)) := rfl
theorem is_leap_eq (n : Nat) (y : Int) (Q) : run tb.G pr (n + 1) "is_leap" [.int y] Q = Q (.fz (.bool (leap y))) [] := by
  rw [e_is_leap]; unfold b_is_leap
  walk_at "S"
  unfold leap
  by_cases h : y % 4 = 0
  · rw [if_pos h]; simp only [h, eq_comm (a := y), decide_true, Bool.true_and, Bool.not_or]
  · rw [if_neg h]; simp only [h, decide_false, Bool.false_and]
theorem mdays_get (y : Int) (k : Nat) (h : k < 12) : (mdays y).getD k 0 = if k = 1 ∧ leap y = true then 29 else months.getD k 0 := by
  unfold mdays months
  match k, h with
  | 0, _ => simp
  | 1, _ => cases leap y <;> simp
  | 2, _ => simp
  | 3, _ => simp
  | 4, _ => simp
  | 5, _ => simp
  | 6, _ => simp
  | 7, _ => simp
  | 8, _ => simp
  | 9, _ => simp
  | 10, _ => simp
  | 11, _ => simp
theorem month_length_eq (n : Nat) (y m : Int) (h0 : 1 ≤ m) (h1 : m ≤ 12) (Q) : run tb.G pr (n + 2) "month_length" [.int y, .int m] Q = Q (.fz (.int ((mdays y).getD (m - 1).toNat 0))) [] := by
  rw [e_month_length]; unfold b_month_length
  simp only [↓TL.x_var, ↓TL.x_lit, ↓TL.x_glb, ↓TL.x_tup, ↓TL.x_lst, ↓TL.x_emp, ↓TL.x_rvs, ↓TL.x_met, ↓TL.x_dc1, ↓TL.x_dc2, ↓TL.x_bin, ↓TL.x_neg, ↓TL.x_nt, ↓TL.x_cmp, ↓TL.x_chn, ↓TL.x_and, ↓TL.x_or, ↓TL.x_ife, ↓TL.x_idx, ↓TL.x_slc, ↓TL.x_call, ↓TL.x_pcall, ↓TL.x_bl1, ↓TL.x_bl2, ↓TL.x_isi, ↓TL.x_pop, ↓TL.x_lc, ↓TL.x_lc2, ↓TL.x_nil, ↓TL.x_cons, ↓TL.x_no, ↓TL.x_so, ↓TL.x_tof, ↓TL.x_tand, ↓TL.x_tor, ↓TL.x_tnt, ↓TL.x_tite, ↓TL.x_ctno, ↓TL.x_ctso, ↓TL.x_iof, ↓TL.x_irng1, ↓TL.x_irng2, ↓TL.x_irng3, ↓TL.x_ienum, ↓TL.x_izip, ↓TL.x_irev, ↓TL.s_asg_, ↓TL.s_par_, ↓TL.s_sub_, ↓TL.s_aug_, ↓TL.s_swp_, ↓TL.s_augs_, ↓TL.s_subW, ↓TL.s_exp_, ↓TL.s_app_, ↓TL.s_ite_, ↓TL.s_for_, ↓TL.s_whl_, ↓TL.s_retN_, ↓TL.s_brk_, ↓TL.s_cnt_, ↓TL.s_pas_, ↓TL.ss_nil_, ↓TL.ss_cons_, ↓TL.o_dc1, ↓TL.s_ret_dc1, ↓TL.o_dc2, ↓TL.s_ret_dc2, ↓TL.o_emp, ↓TL.s_ret_emp, ↓TL.o_rvs, ↓TL.s_ret_rvs, ↓TL.o_met, ↓TL.s_ret_met, ↓TL.o_lit, ↓TL.s_ret_lit, ↓TL.o_glb, ↓TL.s_ret_glb, ↓TL.o_tup, ↓TL.s_ret_tup, ↓TL.o_lst, ↓TL.s_ret_lst, ↓TL.o_bin, ↓TL.s_ret_bin, ↓TL.o_neg, ↓TL.s_ret_neg, ↓TL.o_nt, ↓TL.s_ret_nt, ↓TL.o_cmp, ↓TL.s_ret_cmp, ↓TL.o_chn, ↓TL.s_ret_chn, ↓TL.o_and, ↓TL.s_ret_and, ↓TL.o_or, ↓TL.s_ret_or, ↓TL.o_ife, ↓TL.s_ret_ife, ↓TL.o_idx, ↓TL.s_ret_idx, ↓TL.o_slc, ↓TL.s_ret_slc, ↓TL.o_call, ↓TL.s_ret_call, ↓TL.o_pcall, ↓TL.s_ret_pcall, ↓TL.o_bl1, ↓TL.s_ret_bl1, ↓TL.o_bl2, ↓TL.s_ret_bl2, ↓TL.o_isi, ↓TL.s_ret_isi, ↓TL.o_pop, ↓TL.s_ret_pop, ↓TL.o_lc, ↓TL.s_ret_lc, ↓TL.o_lc2, ↓TL.s_ret_lc2, ↓TL.o_var_, ↓TL.s_retv_, ↓TL.l_val, ↓TL.l_slot, ↓TL.tg_fz, ↓TL.tg_own, ↓TL.tg_tup, ↓TL.tg_nil, ↓TL.tg_cons, ↓TL.wv_fz, ↓TL.wv_own, ↓TL.wv_s, ↓TL.lk_fz, ↓TL.lk_own, ↓TL.lk_bor, ↓TL.lk_s, ↓TL.cs_s, ↓TL.cs_un, ↓TL.cs_fz, ↓TL.cs_own, ↓TL.hd_own, ↓TL.hd_bor, ↓TL.hd_s, ↓TL.sh_own, ↓TL.sh_bor, ↓TL.sh_s, ↓TL.st_0, ↓TL.st_s, ↓TL.fr_nil, ↓TL.fr_cons, ↓TL.wp_nil, ↓TL.wp_cons, ↓TL.bk_nil, ↓TL.bk_cons, ↓TL.b_addI, ↓TL.b_subI, ↓TL.b_mulI, ↓TL.b_divI, ↓TL.b_modI, ↓TL.b_powI, ↓TL.b_addS, ↓TL.b_addT, ↓TL.b_addL, ↓TL.b_mulL, ↓TL.b_mulT, ↓TL.a_add, ↓TL.a_sub, ↓TL.a_mul, ↓TL.c_Eq_int, ↓TL.c_Eq_bool, ↓TL.c_Eq_str, ↓TL.c_Eq_tuple, ↓TL.c_Eq_list, ↓TL.c_NotEq_int, ↓TL.c_NotEq_bool, ↓TL.c_NotEq_str, ↓TL.c_NotEq_tuple, ↓TL.c_NotEq_list, ↓TL.c_Lt, ↓TL.c_LtE, ↓TL.c_Gt, ↓TL.c_GtE, ↓TL.c_LtE_b, ↓TL.c_Is_b, ↓TL.c_Is_n, ↓TL.c_IsNot_b, ↓TL.c_IsNot_n, ↓TL.c_In_tuple, ↓TL.c_In_list, ↓TL.c_NotIn_tuple, ↓TL.c_NotIn_list, ↓TL.t_non, ↓TL.t_bl, ↓TL.t_int, ↓TL.t_str, ↓TL.t_lst, ↓TL.t_tup, ↓TL.i_lst, ↓TL.i_tup, ↓TL.sl_lst, ↓TL.sl_tup, ↓TL.as_i, ↓TL.as_b, ↓TL.it_l, ↓TL.it_t, ↓TL.ls_l, ↓TL.zp_n, ↓TL.zp_f, ↓TL.zp_s, ↓TL.rv_l, ↓TL.rv_t, ↓TL.m_sw, ↓TL.m_ew, ↓TL.m_ix, ↓TL.m_ixd, ↓TL.tm_ixd, ↓TL.tm_sw, ↓TL.tm_ew, ↓TL.tm_ix, ↓TL.c_Lt_t, ↓TL.f_lenL, ↓TL.f_lenT, ↓TL.f_lenS, ↓TL.f_abs, ↓TL.f_min, ↓TL.f_max, ↓TL.f_sum, ↓TL.f_all, ↓TL.f_any, ↓TL.f_sort, ↓TL.f_ssetL, ↓TL.f_ssetT, ↓TL.f_trng, ↓TL.f_denL, ↓TL.f_denT, ↓TL.f_tupL, ↓TL.f_tupT, ↓TL.f_lstL, ↓TL.f_lstT, ↓TL.f_intI, ↓TL.f_intB, ↓TL.f_str, ↓TL.g_min, ↓TL.g_max, ↓TL.rd_fz, ↓TL.rd_own, ↓TL.rs_fz, ↓TL.rs_own, ↓TL.ou_b, ↓TL.at_l0, ↓TL.at_l1, ↓TL.at_l2, ↓TL.at_l3, ↓TL.at_l4, ↓TL.at_l5, ↓TL.at_l6, ↓TL.at_l7, ↓TL.ix_l0, ↓TL.ix_l1, ↓TL.ix_l2, ↓TL.ix_l3, ↓TL.ix_l4, ↓TL.ix_l5, ↓TL.ix_l6, ↓TL.ix_l7, ↓TL.ix_l8, ↓TL.ix_l9, ↓TL.ix_l10, ↓TL.ix_l11, ↓TL.ix_l12, TL.isStr, TL.flatD, TL.inD, TL.isiD, TL.tyD, TL.isNone, TL.eqv_int, TL.eqv_bool, TL.eqv_str, TL.sh_int, TL.sh_bool, TL.sz_le, TL.sz_lt, TL.Sl.held, List.map_cons, List.map_nil, List.cons_append, List.nil_append, List.append_nil, List.length_cons, List.length_nil, List.length_map, List.length_set, List.set_cons_zero, List.set_cons_succ, Nat.reduceLT, List.all_cons, List.all_nil, List.any_cons, List.any_nil, List.zip_cons_cons, List.zip_nil_left, List.zip_nil_right, List.foldl_cons, List.foldl_nil, List.getD_cons_zero, List.getD_cons_succ, List.mem_cons, List.not_mem_nil, forall_eq_or_imp, forall_eq, or_false, false_or, true_or, or_true, true_and, and_true, false_and, and_false, false_implies, implies_true, forall_const, ↓reduceIte, if_true, if_false, Bool.false_eq_true, Bool.true_and, Bool.and_true, Bool.false_and, Bool.and_false, Bool.or_false, Bool.false_or, Bool.or_true, Bool.true_or, Bool.not_true, Bool.not_false, Bool.and_eq_true, Bool.or_eq_true, Bool.not_eq_true', decide_eq_true_eq, decide_eq_false_iff_not, ne_eq, not_false_eq_true, not_true_eq_false, reduceCtorEq, decide_true, decide_false, Nat.reduceAdd, Nat.reduceLeDiff, Nat.reduceEqDiff, TL.all_isInt, TL.map_intOf, TL.all_isBool, TL.map_boolOf, TL.take_ints, TL.drop_ints, List.take_succ_cons, List.take_zero, List.drop_succ_cons, List.drop_zero, List.take_nil, List.drop_nil, TL.fmod_n, TL.fdiv_n, TL.cut_to, TL.cut_from, TL.cut_mid, Int.reduceEq, Int.reduceNe, Int.reduceNeg, Int.reduceAdd, Int.reduceMul, Int.reduceSub, Int.reduceLT, Int.reduceLE, Int.reduceGT, Int.reduceGE, Int.reducePow, Int.reduceToNat, Int.add_zero, Int.zero_add, String.reduceEq, String.reduceBEq, is_leap_eq, ↓x_glb g_MONTHS]
  rw [at_ints (by omega) (by rw [months_len]; omega), mdays_get y _ (by omega)]
  by_cases h : m = 2
  · subst h
    cases leap y <;> simp
  · rw [if_neg h, if_neg (by omega)]
theorem law_lengths_eq (n : Nat) (y : Int) (Q) : run tb.G pr (n + 1) "_law_lengths" [.int y] Q = Q (.own ((mdays y).map .int)) [] := by
  rw [e_law_lengths]; unfold b_law_lengths
  walk_at "S"
  unfold mdays leap
  by_cases h : y % 4 = 0
  · rw [if_pos h]
    simp only [h, eq_comm (a := y), decide_true, Bool.true_and, List.map_cons, List.map_nil, ← Bool.not_or, Bool.not_eq_true']
  · rw [if_neg h]
    simp only [h, decide_false, Bool.false_and, List.map_cons, List.map_nil, Bool.false_eq_true, if_false, Int.add_zero]
def mlen (y k : Int) : Int := (mdays y).getD k.toNat 0
theorem mdays_len (y : Int) : (mdays y).length = 12 := rfl
def later (y m k : Int) : Int := y * 12 + m - 1 + k
def ystart (y : Int) : Int := 365 * (y - 1900) + ((if (y - 1901) / 4 > 0 then (y - 1901) / 4 else 0) - if 2100 < y then 1 else 0)
def dayOf (y m d : Int) : Int := ystart y + ((mdays y).take (m - 1).toNat).sum + d - 1
theorem day_of_ok (n : Nat) (y m d : Int) (hy : -100000 ≤ y ∧ y ≤ 100000) (hm : 1 ≤ m) (Q : RV → List D → Prop)
    (q : Q (.fz (.int (dayOf y m d))) []) :
    run tb.G pr (n + 2) "_law_day_of" [.tuple [.int y, .int m, .int d]] Q := by
  rw [e_law_day_of]; unfold b_law_day_of
  simp only [↓TL.x_var, ↓TL.x_lit, ↓TL.x_glb, ↓TL.x_tup, ↓TL.x_lst, ↓TL.x_emp, ↓TL.x_rvs, ↓TL.x_met, ↓TL.x_dc1, ↓TL.x_dc2, ↓TL.x_bin, ↓TL.x_neg, ↓TL.x_nt, ↓TL.x_cmp, ↓TL.x_chn, ↓TL.x_and, ↓TL.x_or, ↓TL.x_ife, ↓TL.x_idx, ↓TL.x_slc, ↓TL.x_call, ↓TL.x_pcall, ↓TL.x_bl1, ↓TL.x_bl2, ↓TL.x_isi, ↓TL.x_pop, ↓TL.x_lc, ↓TL.x_lc2, ↓TL.x_nil, ↓TL.x_cons, ↓TL.x_no, ↓TL.x_so, ↓TL.x_tof, ↓TL.x_tand, ↓TL.x_tor, ↓TL.x_tnt, ↓TL.x_tite, ↓TL.x_ctno, ↓TL.x_ctso, ↓TL.x_iof, ↓TL.x_irng1, ↓TL.x_irng2, ↓TL.x_irng3, ↓TL.x_ienum, ↓TL.x_izip, ↓TL.x_irev, ↓TL.s_asg_, ↓TL.s_par_, ↓TL.s_sub_, ↓TL.s_aug_, ↓TL.s_swp_, ↓TL.s_augs_, ↓TL.s_subW, ↓TL.s_exp_, ↓TL.s_app_, ↓TL.s_ite_, ↓TL.s_for_, ↓TL.s_whl_, ↓TL.s_retN_, ↓TL.s_brk_, ↓TL.s_cnt_, ↓TL.s_pas_, ↓TL.ss_nil_, ↓TL.ss_cons_, ↓TL.o_dc1, ↓TL.s_ret_dc1, ↓TL.o_dc2, ↓TL.s_ret_dc2, ↓TL.o_emp, ↓TL.s_ret_emp, ↓TL.o_rvs, ↓TL.s_ret_rvs, ↓TL.o_met, ↓TL.s_ret_met, ↓TL.o_lit, ↓TL.s_ret_lit, ↓TL.o_glb, ↓TL.s_ret_glb, ↓TL.o_tup, ↓TL.s_ret_tup, ↓TL.o_lst, ↓TL.s_ret_lst, ↓TL.o_bin, ↓TL.s_ret_bin, ↓TL.o_neg, ↓TL.s_ret_neg, ↓TL.o_nt, ↓TL.s_ret_nt, ↓TL.o_cmp, ↓TL.s_ret_cmp, ↓TL.o_chn, ↓TL.s_ret_chn, ↓TL.o_and, ↓TL.s_ret_and, ↓TL.o_or, ↓TL.s_ret_or, ↓TL.o_ife, ↓TL.s_ret_ife, ↓TL.o_idx, ↓TL.s_ret_idx, ↓TL.o_slc, ↓TL.s_ret_slc, ↓TL.o_call, ↓TL.s_ret_call, ↓TL.o_pcall, ↓TL.s_ret_pcall, ↓TL.o_bl1, ↓TL.s_ret_bl1, ↓TL.o_bl2, ↓TL.s_ret_bl2, ↓TL.o_isi, ↓TL.s_ret_isi, ↓TL.o_pop, ↓TL.s_ret_pop, ↓TL.o_lc, ↓TL.s_ret_lc, ↓TL.o_lc2, ↓TL.s_ret_lc2, ↓TL.o_var_, ↓TL.s_retv_, ↓TL.l_val, ↓TL.l_slot, ↓TL.tg_fz, ↓TL.tg_own, ↓TL.tg_tup, ↓TL.tg_nil, ↓TL.tg_cons, ↓TL.wv_fz, ↓TL.wv_own, ↓TL.wv_s, ↓TL.lk_fz, ↓TL.lk_own, ↓TL.lk_bor, ↓TL.lk_s, ↓TL.cs_s, ↓TL.cs_un, ↓TL.cs_fz, ↓TL.cs_own, ↓TL.hd_own, ↓TL.hd_bor, ↓TL.hd_s, ↓TL.sh_own, ↓TL.sh_bor, ↓TL.sh_s, ↓TL.st_0, ↓TL.st_s, ↓TL.fr_nil, ↓TL.fr_cons, ↓TL.wp_nil, ↓TL.wp_cons, ↓TL.bk_nil, ↓TL.bk_cons, ↓TL.b_addI, ↓TL.b_subI, ↓TL.b_mulI, ↓TL.b_divI, ↓TL.b_modI, ↓TL.b_powI, ↓TL.b_addS, ↓TL.b_addT, ↓TL.b_addL, ↓TL.b_mulL, ↓TL.b_mulT, ↓TL.a_add, ↓TL.a_sub, ↓TL.a_mul, ↓TL.c_Eq_int, ↓TL.c_Eq_bool, ↓TL.c_Eq_str, ↓TL.c_Eq_tuple, ↓TL.c_Eq_list, ↓TL.c_NotEq_int, ↓TL.c_NotEq_bool, ↓TL.c_NotEq_str, ↓TL.c_NotEq_tuple, ↓TL.c_NotEq_list, ↓TL.c_Lt, ↓TL.c_LtE, ↓TL.c_Gt, ↓TL.c_GtE, ↓TL.c_LtE_b, ↓TL.c_Is_b, ↓TL.c_Is_n, ↓TL.c_IsNot_b, ↓TL.c_IsNot_n, ↓TL.c_In_tuple, ↓TL.c_In_list, ↓TL.c_NotIn_tuple, ↓TL.c_NotIn_list, ↓TL.t_non, ↓TL.t_bl, ↓TL.t_int, ↓TL.t_str, ↓TL.t_lst, ↓TL.t_tup, ↓TL.i_lst, ↓TL.i_tup, ↓TL.sl_lst, ↓TL.sl_tup, ↓TL.as_i, ↓TL.as_b, ↓TL.it_l, ↓TL.it_t, ↓TL.ls_l, ↓TL.zp_n, ↓TL.zp_f, ↓TL.zp_s, ↓TL.rv_l, ↓TL.rv_t, ↓TL.m_sw, ↓TL.m_ew, ↓TL.m_ix, ↓TL.m_ixd, ↓TL.tm_ixd, ↓TL.tm_sw, ↓TL.tm_ew, ↓TL.tm_ix, ↓TL.c_Lt_t, ↓TL.f_lenL, ↓TL.f_lenT, ↓TL.f_lenS, ↓TL.f_abs, ↓TL.f_min, ↓TL.f_max, ↓TL.f_sum, ↓TL.f_all, ↓TL.f_any, ↓TL.f_sort, ↓TL.f_ssetL, ↓TL.f_ssetT, ↓TL.f_trng, ↓TL.f_denL, ↓TL.f_denT, ↓TL.f_tupL, ↓TL.f_tupT, ↓TL.f_lstL, ↓TL.f_lstT, ↓TL.f_intI, ↓TL.f_intB, ↓TL.f_str, ↓TL.g_min, ↓TL.g_max, ↓TL.rd_fz, ↓TL.rd_own, ↓TL.rs_fz, ↓TL.rs_own, ↓TL.ou_b, ↓TL.at_l0, ↓TL.at_l1, ↓TL.at_l2, ↓TL.at_l3, ↓TL.at_l4, ↓TL.at_l5, ↓TL.at_l6, ↓TL.at_l7, ↓TL.ix_l0, ↓TL.ix_l1, ↓TL.ix_l2, ↓TL.ix_l3, ↓TL.ix_l4, ↓TL.ix_l5, ↓TL.ix_l6, ↓TL.ix_l7, ↓TL.ix_l8, ↓TL.ix_l9, ↓TL.ix_l10, ↓TL.ix_l11, ↓TL.ix_l12, TL.isStr, TL.flatD, TL.inD, TL.isiD, TL.tyD, TL.isNone, TL.eqv_int, TL.eqv_bool, TL.eqv_str, TL.sh_int, TL.sh_bool, TL.sz_le, TL.sz_lt, TL.Sl.held, List.map_cons, List.map_nil, List.cons_append, List.nil_append, List.append_nil, List.length_cons, List.length_nil, List.length_map, List.length_set, List.set_cons_zero, List.set_cons_succ, Nat.reduceLT, List.all_cons, List.all_nil, List.any_cons, List.any_nil, List.zip_cons_cons, List.zip_nil_left, List.zip_nil_right, List.foldl_cons, List.foldl_nil, List.getD_cons_zero, List.getD_cons_succ, List.mem_cons, List.not_mem_nil, forall_eq_or_imp, forall_eq, or_false, false_or, true_or, or_true, true_and, and_true, false_and, and_false, false_implies, implies_true, forall_const, ↓reduceIte, if_true, if_false, Bool.false_eq_true, Bool.true_and, Bool.and_true, Bool.false_and, Bool.and_false, Bool.or_false, Bool.false_or, Bool.or_true, Bool.true_or, Bool.not_true, Bool.not_false, Bool.and_eq_true, Bool.or_eq_true, Bool.not_eq_true', decide_eq_true_eq, decide_eq_false_iff_not, ne_eq, not_false_eq_true, not_true_eq_false, reduceCtorEq, decide_true, decide_false, Nat.reduceAdd, Nat.reduceLeDiff, Nat.reduceEqDiff, TL.all_isInt, TL.map_intOf, TL.all_isBool, TL.map_boolOf, TL.take_ints, TL.drop_ints, List.take_succ_cons, List.take_zero, List.drop_succ_cons, List.drop_zero, List.take_nil, List.drop_nil, TL.fmod_n, TL.fdiv_n, TL.cut_to, TL.cut_from, TL.cut_mid, Int.reduceEq, Int.reduceNe, Int.reduceNeg, Int.reduceAdd, Int.reduceMul, Int.reduceSub, Int.reduceLT, Int.reduceLE, Int.reduceGT, Int.reduceGE, Int.reducePow, Int.reduceToNat, Int.add_zero, Int.zero_add, String.reduceEq, String.reduceBEq, law_lengths_eq, cut_to (show (0:Int) ≤ m - 1 by omega)]
  exact ⟨dok (by omega) (by omega) (by omega), mok (by omega) (by omega) (by omega) (by omega), q⟩
theorem leap_next' (y : Int) (h : 1899 ≤ y) (h2 : y ≤ 2199) : ystart (y + 1) = ystart y + 365 + (if leap y = true then 1 else 0) := by
  unfold ystart leap
  by_cases h1 : y % 4 = 0 <;> by_cases h3 : y = 1900 <;> by_cases h4 : y = 2100 <;> simp only [h1, h3, h4, decide_true, decide_false, Bool.not_true, Bool.not_false, Bool.and_true, Bool.and_false, Bool.true_and, Bool.false_and, Bool.false_eq_true, if_true, if_false] <;> (repeat' split) <;> omega
theorem leap_next (y : Int) (h : 1900 ≤ y) (h2 : y ≤ 2199) : ystart (y + 1) = ystart y + 365 + (if leap y = true then 1 else 0) := leap_next' y (by omega) h2
theorem ystart_le (y : Int) (h : 1900 ≤ y) : ystart y ≤ 366 * (y - 1900) := by
  unfold ystart
  (repeat' split) <;> omega
theorem sum_mdays (y : Int) : (mdays y).sum = 365 + (if leap y = true then 1 else 0) := by
  unfold mdays
  cases leap y <;> rfl
theorem dayOf_1 (y : Int) : dayOf y 1 1 = ystart y := by
  unfold dayOf
  simp
theorem mdays_pos (y : Int) (k : Nat) (h : k < 12) : 28 ≤ (mdays y).getD k 0 := by
  rw [mdays_get y k h]
  have : ∀ k, k < 12 → 28 ≤ months.getD k 0 := by decide
  split
  · omega
  · exact this k h
theorem sum_take (y : Int) (k : Nat) (h : k < 12) : ((mdays y).take (k + 1)).sum = ((mdays y).take k).sum + (mdays y).getD k 0 := by
  rw [List.take_succ_eq_append_getElem (by rw [mdays_len]; exact h), List.sum_append, List.getD_eq_getElem?_getD, List.getElem?_eq_getElem (by rw [mdays_len]; exact h)]
  simp
theorem date_of2 (n : Nat) (day y : Int) (y0 : 1900 ≤ y) (y1 : y ≤ 2199) (h0 : ystart y ≤ day) (h1 : day < ystart (y + 1)) (Q : RV → List D → Prop)
    (q : ∀ m p : Int, 1 ≤ m → m ≤ 12 → 1 ≤ p → p ≤ mlen y (m - 1) → dayOf y m p = day → Q (.fz (.tuple [.int y, .int m, .int p])) []) :
    TL.wpSs tb.G (run tb.G pr (n + 2)) (ctl (ctl b_law_date_of)) [.fz (.int day), .fz (.int y), .un, .un] ⟨fun _ => Q (.fz .none) [], fun r _ => Q r [], fun _ => False, fun _ => False⟩ := by
  unfold b_law_date_of
  simp only [ctl]
  walk_at "S"
  refine day_of_ok n _ _ _ (by omega) (by omega) _ ?_
  rw [dayOf_1]
  walk_at "S"
  have hs := leap_next y y0 y1
  have hm := sum_mdays y
  refine wh_inv (m := 12) (fun k ρ => ∃ m r : Int, ρ = [.fz (.int day), .fz (.int y), .fz (.int r), .fz (.int m)] ∧ 1 ≤ m ∧ m ≤ 12 ∧ (k : Int) = 13 - m ∧ 0 ≤ r ∧ r = day - ystart y - ((mdays y).take (m - 1).toNat).sum) ⟨1, day - ystart y, rfl, by omega, by omega, by omega, by omega, by simp⟩ (fun k ρ K hp kt kf => ?_)
  obtain ⟨m, r, rfl, m0, m1, hk, r0, hr⟩ := hp
  simp only [↓TL.x_var, ↓TL.x_lit, ↓TL.x_glb, ↓TL.x_tup, ↓TL.x_lst, ↓TL.x_emp, ↓TL.x_rvs, ↓TL.x_met, ↓TL.x_dc1, ↓TL.x_dc2, ↓TL.x_bin, ↓TL.x_neg, ↓TL.x_nt, ↓TL.x_cmp, ↓TL.x_chn, ↓TL.x_and, ↓TL.x_or, ↓TL.x_ife, ↓TL.x_idx, ↓TL.x_slc, ↓TL.x_call, ↓TL.x_pcall, ↓TL.x_bl1, ↓TL.x_bl2, ↓TL.x_isi, ↓TL.x_pop, ↓TL.x_lc, ↓TL.x_lc2, ↓TL.x_nil, ↓TL.x_cons, ↓TL.x_no, ↓TL.x_so, ↓TL.x_tof, ↓TL.x_tand, ↓TL.x_tor, ↓TL.x_tnt, ↓TL.x_tite, ↓TL.x_ctno, ↓TL.x_ctso, ↓TL.x_iof, ↓TL.x_irng1, ↓TL.x_irng2, ↓TL.x_irng3, ↓TL.x_ienum, ↓TL.x_izip, ↓TL.x_irev, ↓TL.s_asg_, ↓TL.s_par_, ↓TL.s_sub_, ↓TL.s_aug_, ↓TL.s_swp_, ↓TL.s_augs_, ↓TL.s_subW, ↓TL.s_exp_, ↓TL.s_app_, ↓TL.s_ite_, ↓TL.s_for_, ↓TL.s_whl_, ↓TL.s_retN_, ↓TL.s_brk_, ↓TL.s_cnt_, ↓TL.s_pas_, ↓TL.ss_nil_, ↓TL.ss_cons_, ↓TL.o_dc1, ↓TL.s_ret_dc1, ↓TL.o_dc2, ↓TL.s_ret_dc2, ↓TL.o_emp, ↓TL.s_ret_emp, ↓TL.o_rvs, ↓TL.s_ret_rvs, ↓TL.o_met, ↓TL.s_ret_met, ↓TL.o_lit, ↓TL.s_ret_lit, ↓TL.o_glb, ↓TL.s_ret_glb, ↓TL.o_tup, ↓TL.s_ret_tup, ↓TL.o_lst, ↓TL.s_ret_lst, ↓TL.o_bin, ↓TL.s_ret_bin, ↓TL.o_neg, ↓TL.s_ret_neg, ↓TL.o_nt, ↓TL.s_ret_nt, ↓TL.o_cmp, ↓TL.s_ret_cmp, ↓TL.o_chn, ↓TL.s_ret_chn, ↓TL.o_and, ↓TL.s_ret_and, ↓TL.o_or, ↓TL.s_ret_or, ↓TL.o_ife, ↓TL.s_ret_ife, ↓TL.o_idx, ↓TL.s_ret_idx, ↓TL.o_slc, ↓TL.s_ret_slc, ↓TL.o_call, ↓TL.s_ret_call, ↓TL.o_pcall, ↓TL.s_ret_pcall, ↓TL.o_bl1, ↓TL.s_ret_bl1, ↓TL.o_bl2, ↓TL.s_ret_bl2, ↓TL.o_isi, ↓TL.s_ret_isi, ↓TL.o_pop, ↓TL.s_ret_pop, ↓TL.o_lc, ↓TL.s_ret_lc, ↓TL.o_lc2, ↓TL.s_ret_lc2, ↓TL.o_var_, ↓TL.s_retv_, ↓TL.l_val, ↓TL.l_slot, ↓TL.tg_fz, ↓TL.tg_own, ↓TL.tg_tup, ↓TL.tg_nil, ↓TL.tg_cons, ↓TL.wv_fz, ↓TL.wv_own, ↓TL.wv_s, ↓TL.lk_fz, ↓TL.lk_own, ↓TL.lk_bor, ↓TL.lk_s, ↓TL.cs_s, ↓TL.cs_un, ↓TL.cs_fz, ↓TL.cs_own, ↓TL.hd_own, ↓TL.hd_bor, ↓TL.hd_s, ↓TL.sh_own, ↓TL.sh_bor, ↓TL.sh_s, ↓TL.st_0, ↓TL.st_s, ↓TL.fr_nil, ↓TL.fr_cons, ↓TL.wp_nil, ↓TL.wp_cons, ↓TL.bk_nil, ↓TL.bk_cons, ↓TL.b_addI, ↓TL.b_subI, ↓TL.b_mulI, ↓TL.b_divI, ↓TL.b_modI, ↓TL.b_powI, ↓TL.b_addS, ↓TL.b_addT, ↓TL.b_addL, ↓TL.b_mulL, ↓TL.b_mulT, ↓TL.a_add, ↓TL.a_sub, ↓TL.a_mul, ↓TL.c_Eq_int, ↓TL.c_Eq_bool, ↓TL.c_Eq_str, ↓TL.c_Eq_tuple, ↓TL.c_Eq_list, ↓TL.c_NotEq_int, ↓TL.c_NotEq_bool, ↓TL.c_NotEq_str, ↓TL.c_NotEq_tuple, ↓TL.c_NotEq_list, ↓TL.c_Lt, ↓TL.c_LtE, ↓TL.c_Gt, ↓TL.c_GtE, ↓TL.c_LtE_b, ↓TL.c_Is_b, ↓TL.c_Is_n, ↓TL.c_IsNot_b, ↓TL.c_IsNot_n, ↓TL.c_In_tuple, ↓TL.c_In_list, ↓TL.c_NotIn_tuple, ↓TL.c_NotIn_list, ↓TL.t_non, ↓TL.t_bl, ↓TL.t_int, ↓TL.t_str, ↓TL.t_lst, ↓TL.t_tup, ↓TL.i_lst, ↓TL.i_tup, ↓TL.sl_lst, ↓TL.sl_tup, ↓TL.as_i, ↓TL.as_b, ↓TL.it_l, ↓TL.it_t, ↓TL.ls_l, ↓TL.zp_n, ↓TL.zp_f, ↓TL.zp_s, ↓TL.rv_l, ↓TL.rv_t, ↓TL.m_sw, ↓TL.m_ew, ↓TL.m_ix, ↓TL.m_ixd, ↓TL.tm_ixd, ↓TL.tm_sw, ↓TL.tm_ew, ↓TL.tm_ix, ↓TL.c_Lt_t, ↓TL.f_lenL, ↓TL.f_lenT, ↓TL.f_lenS, ↓TL.f_abs, ↓TL.f_min, ↓TL.f_max, ↓TL.f_sum, ↓TL.f_all, ↓TL.f_any, ↓TL.f_sort, ↓TL.f_ssetL, ↓TL.f_ssetT, ↓TL.f_trng, ↓TL.f_denL, ↓TL.f_denT, ↓TL.f_tupL, ↓TL.f_tupT, ↓TL.f_lstL, ↓TL.f_lstT, ↓TL.f_intI, ↓TL.f_intB, ↓TL.f_str, ↓TL.g_min, ↓TL.g_max, ↓TL.rd_fz, ↓TL.rd_own, ↓TL.rs_fz, ↓TL.rs_own, ↓TL.ou_b, ↓TL.at_l0, ↓TL.at_l1, ↓TL.at_l2, ↓TL.at_l3, ↓TL.at_l4, ↓TL.at_l5, ↓TL.at_l6, ↓TL.at_l7, ↓TL.ix_l0, ↓TL.ix_l1, ↓TL.ix_l2, ↓TL.ix_l3, ↓TL.ix_l4, ↓TL.ix_l5, ↓TL.ix_l6, ↓TL.ix_l7, ↓TL.ix_l8, ↓TL.ix_l9, ↓TL.ix_l10, ↓TL.ix_l11, ↓TL.ix_l12, TL.isStr, TL.flatD, TL.inD, TL.isiD, TL.tyD, TL.isNone, TL.eqv_int, TL.eqv_bool, TL.eqv_str, TL.sh_int, TL.sh_bool, TL.sz_le, TL.sz_lt, TL.Sl.held, List.map_cons, List.map_nil, List.cons_append, List.nil_append, List.append_nil, List.length_cons, List.length_nil, List.length_map, List.length_set, List.set_cons_zero, List.set_cons_succ, Nat.reduceLT, List.all_cons, List.all_nil, List.any_cons, List.any_nil, List.zip_cons_cons, List.zip_nil_left, List.zip_nil_right, List.foldl_cons, List.foldl_nil, List.getD_cons_zero, List.getD_cons_succ, List.mem_cons, List.not_mem_nil, forall_eq_or_imp, forall_eq, or_false, false_or, true_or, or_true, true_and, and_true, false_and, and_false, false_implies, implies_true, forall_const, ↓reduceIte, if_true, if_false, Bool.false_eq_true, Bool.true_and, Bool.and_true, Bool.false_and, Bool.and_false, Bool.or_false, Bool.false_or, Bool.or_true, Bool.true_or, Bool.not_true, Bool.not_false, Bool.and_eq_true, Bool.or_eq_true, Bool.not_eq_true', decide_eq_true_eq, decide_eq_false_iff_not, ne_eq, not_false_eq_true, not_true_eq_false, reduceCtorEq, decide_true, decide_false, Nat.reduceAdd, Nat.reduceLeDiff, Nat.reduceEqDiff, TL.all_isInt, TL.map_intOf, TL.all_isBool, TL.map_boolOf, TL.take_ints, TL.drop_ints, List.take_succ_cons, List.take_zero, List.drop_succ_cons, List.drop_zero, List.take_nil, List.drop_nil, TL.fmod_n, TL.fdiv_n, TL.cut_to, TL.cut_from, TL.cut_mid, Int.reduceEq, Int.reduceNe, Int.reduceNeg, Int.reduceAdd, Int.reduceMul, Int.reduceSub, Int.reduceLT, Int.reduceLE, Int.reduceGT, Int.reduceGE, Int.reducePow, Int.reduceToNat, Int.add_zero, Int.zero_add, String.reduceEq, String.reduceBEq, law_lengths_eq]
  rw [at_ints (by omega) (by rw [mdays_len]; omega)]
  have st := sum_take y (m - 1).toNat (by omega)
  rw [show (m - 1).toNat + 1 = m.toNat by omega] at st
  walk_at "S"
  by_cases h : (mdays y).getD (m - 1).toNat 0 ≤ r
  · simp only [h, decide_true]
    refine kt _ fun n1 n4 k1 k4 => ?_
    simp only [↓TL.x_var, ↓TL.x_lit, ↓TL.x_glb, ↓TL.x_tup, ↓TL.x_lst, ↓TL.x_emp, ↓TL.x_rvs, ↓TL.x_met, ↓TL.x_dc1, ↓TL.x_dc2, ↓TL.x_bin, ↓TL.x_neg, ↓TL.x_nt, ↓TL.x_cmp, ↓TL.x_chn, ↓TL.x_and, ↓TL.x_or, ↓TL.x_ife, ↓TL.x_idx, ↓TL.x_slc, ↓TL.x_call, ↓TL.x_pcall, ↓TL.x_bl1, ↓TL.x_bl2, ↓TL.x_isi, ↓TL.x_pop, ↓TL.x_lc, ↓TL.x_lc2, ↓TL.x_nil, ↓TL.x_cons, ↓TL.x_no, ↓TL.x_so, ↓TL.x_tof, ↓TL.x_tand, ↓TL.x_tor, ↓TL.x_tnt, ↓TL.x_tite, ↓TL.x_ctno, ↓TL.x_ctso, ↓TL.x_iof, ↓TL.x_irng1, ↓TL.x_irng2, ↓TL.x_irng3, ↓TL.x_ienum, ↓TL.x_izip, ↓TL.x_irev, ↓TL.s_asg_, ↓TL.s_par_, ↓TL.s_sub_, ↓TL.s_aug_, ↓TL.s_swp_, ↓TL.s_augs_, ↓TL.s_subW, ↓TL.s_exp_, ↓TL.s_app_, ↓TL.s_ite_, ↓TL.s_for_, ↓TL.s_whl_, ↓TL.s_retN_, ↓TL.s_brk_, ↓TL.s_cnt_, ↓TL.s_pas_, ↓TL.ss_nil_, ↓TL.ss_cons_, ↓TL.o_dc1, ↓TL.s_ret_dc1, ↓TL.o_dc2, ↓TL.s_ret_dc2, ↓TL.o_emp, ↓TL.s_ret_emp, ↓TL.o_rvs, ↓TL.s_ret_rvs, ↓TL.o_met, ↓TL.s_ret_met, ↓TL.o_lit, ↓TL.s_ret_lit, ↓TL.o_glb, ↓TL.s_ret_glb, ↓TL.o_tup, ↓TL.s_ret_tup, ↓TL.o_lst, ↓TL.s_ret_lst, ↓TL.o_bin, ↓TL.s_ret_bin, ↓TL.o_neg, ↓TL.s_ret_neg, ↓TL.o_nt, ↓TL.s_ret_nt, ↓TL.o_cmp, ↓TL.s_ret_cmp, ↓TL.o_chn, ↓TL.s_ret_chn, ↓TL.o_and, ↓TL.s_ret_and, ↓TL.o_or, ↓TL.s_ret_or, ↓TL.o_ife, ↓TL.s_ret_ife, ↓TL.o_idx, ↓TL.s_ret_idx, ↓TL.o_slc, ↓TL.s_ret_slc, ↓TL.o_call, ↓TL.s_ret_call, ↓TL.o_pcall, ↓TL.s_ret_pcall, ↓TL.o_bl1, ↓TL.s_ret_bl1, ↓TL.o_bl2, ↓TL.s_ret_bl2, ↓TL.o_isi, ↓TL.s_ret_isi, ↓TL.o_pop, ↓TL.s_ret_pop, ↓TL.o_lc, ↓TL.s_ret_lc, ↓TL.o_lc2, ↓TL.s_ret_lc2, ↓TL.o_var_, ↓TL.s_retv_, ↓TL.l_val, ↓TL.l_slot, ↓TL.tg_fz, ↓TL.tg_own, ↓TL.tg_tup, ↓TL.tg_nil, ↓TL.tg_cons, ↓TL.wv_fz, ↓TL.wv_own, ↓TL.wv_s, ↓TL.lk_fz, ↓TL.lk_own, ↓TL.lk_bor, ↓TL.lk_s, ↓TL.cs_s, ↓TL.cs_un, ↓TL.cs_fz, ↓TL.cs_own, ↓TL.hd_own, ↓TL.hd_bor, ↓TL.hd_s, ↓TL.sh_own, ↓TL.sh_bor, ↓TL.sh_s, ↓TL.st_0, ↓TL.st_s, ↓TL.fr_nil, ↓TL.fr_cons, ↓TL.wp_nil, ↓TL.wp_cons, ↓TL.bk_nil, ↓TL.bk_cons, ↓TL.b_addI, ↓TL.b_subI, ↓TL.b_mulI, ↓TL.b_divI, ↓TL.b_modI, ↓TL.b_powI, ↓TL.b_addS, ↓TL.b_addT, ↓TL.b_addL, ↓TL.b_mulL, ↓TL.b_mulT, ↓TL.a_add, ↓TL.a_sub, ↓TL.a_mul, ↓TL.c_Eq_int, ↓TL.c_Eq_bool, ↓TL.c_Eq_str, ↓TL.c_Eq_tuple, ↓TL.c_Eq_list, ↓TL.c_NotEq_int, ↓TL.c_NotEq_bool, ↓TL.c_NotEq_str, ↓TL.c_NotEq_tuple, ↓TL.c_NotEq_list, ↓TL.c_Lt, ↓TL.c_LtE, ↓TL.c_Gt, ↓TL.c_GtE, ↓TL.c_LtE_b, ↓TL.c_Is_b, ↓TL.c_Is_n, ↓TL.c_IsNot_b, ↓TL.c_IsNot_n, ↓TL.c_In_tuple, ↓TL.c_In_list, ↓TL.c_NotIn_tuple, ↓TL.c_NotIn_list, ↓TL.t_non, ↓TL.t_bl, ↓TL.t_int, ↓TL.t_str, ↓TL.t_lst, ↓TL.t_tup, ↓TL.i_lst, ↓TL.i_tup, ↓TL.sl_lst, ↓TL.sl_tup, ↓TL.as_i, ↓TL.as_b, ↓TL.it_l, ↓TL.it_t, ↓TL.ls_l, ↓TL.zp_n, ↓TL.zp_f, ↓TL.zp_s, ↓TL.rv_l, ↓TL.rv_t, ↓TL.m_sw, ↓TL.m_ew, ↓TL.m_ix, ↓TL.m_ixd, ↓TL.tm_ixd, ↓TL.tm_sw, ↓TL.tm_ew, ↓TL.tm_ix, ↓TL.c_Lt_t, ↓TL.f_lenL, ↓TL.f_lenT, ↓TL.f_lenS, ↓TL.f_abs, ↓TL.f_min, ↓TL.f_max, ↓TL.f_sum, ↓TL.f_all, ↓TL.f_any, ↓TL.f_sort, ↓TL.f_ssetL, ↓TL.f_ssetT, ↓TL.f_trng, ↓TL.f_denL, ↓TL.f_denT, ↓TL.f_tupL, ↓TL.f_tupT, ↓TL.f_lstL, ↓TL.f_lstT, ↓TL.f_intI, ↓TL.f_intB, ↓TL.f_str, ↓TL.g_min, ↓TL.g_max, ↓TL.rd_fz, ↓TL.rd_own, ↓TL.rs_fz, ↓TL.rs_own, ↓TL.ou_b, ↓TL.at_l0, ↓TL.at_l1, ↓TL.at_l2, ↓TL.at_l3, ↓TL.at_l4, ↓TL.at_l5, ↓TL.at_l6, ↓TL.at_l7, ↓TL.ix_l0, ↓TL.ix_l1, ↓TL.ix_l2, ↓TL.ix_l3, ↓TL.ix_l4, ↓TL.ix_l5, ↓TL.ix_l6, ↓TL.ix_l7, ↓TL.ix_l8, ↓TL.ix_l9, ↓TL.ix_l10, ↓TL.ix_l11, ↓TL.ix_l12, TL.isStr, TL.flatD, TL.inD, TL.isiD, TL.tyD, TL.isNone, TL.eqv_int, TL.eqv_bool, TL.eqv_str, TL.sh_int, TL.sh_bool, TL.sz_le, TL.sz_lt, TL.Sl.held, List.map_cons, List.map_nil, List.cons_append, List.nil_append, List.append_nil, List.length_cons, List.length_nil, List.length_map, List.length_set, List.set_cons_zero, List.set_cons_succ, Nat.reduceLT, List.all_cons, List.all_nil, List.any_cons, List.any_nil, List.zip_cons_cons, List.zip_nil_left, List.zip_nil_right, List.foldl_cons, List.foldl_nil, List.getD_cons_zero, List.getD_cons_succ, List.mem_cons, List.not_mem_nil, forall_eq_or_imp, forall_eq, or_false, false_or, true_or, or_true, true_and, and_true, false_and, and_false, false_implies, implies_true, forall_const, ↓reduceIte, if_true, if_false, Bool.false_eq_true, Bool.true_and, Bool.and_true, Bool.false_and, Bool.and_false, Bool.or_false, Bool.false_or, Bool.or_true, Bool.true_or, Bool.not_true, Bool.not_false, Bool.and_eq_true, Bool.or_eq_true, Bool.not_eq_true', decide_eq_true_eq, decide_eq_false_iff_not, ne_eq, not_false_eq_true, not_true_eq_false, reduceCtorEq, decide_true, decide_false, Nat.reduceAdd, Nat.reduceLeDiff, Nat.reduceEqDiff, TL.all_isInt, TL.map_intOf, TL.all_isBool, TL.map_boolOf, TL.take_ints, TL.drop_ints, List.take_succ_cons, List.take_zero, List.drop_succ_cons, List.drop_zero, List.take_nil, List.drop_nil, TL.fmod_n, TL.fdiv_n, TL.cut_to, TL.cut_from, TL.cut_mid, Int.reduceEq, Int.reduceNe, Int.reduceNeg, Int.reduceAdd, Int.reduceMul, Int.reduceSub, Int.reduceLT, Int.reduceLE, Int.reduceGT, Int.reduceGE, Int.reducePow, Int.reduceToNat, Int.add_zero, Int.zero_add, String.reduceEq, String.reduceBEq, law_lengths_eq]
    rw [at_ints (by omega) (by rw [mdays_len]; omega)]
    walk_at "S"
    have m12 : m ≤ 11 := by
      rcases Int.lt_or_le m 12 with z | z
      · omega
      · have e : m = 12 := by omega
        subst e
        rw [show ((12 : Int).toNat) = (mdays y).length by rw [mdays_len]; rfl, List.take_length] at st
        omega
    exact k1 (k - 1) _ (by omega) ⟨m + 1, r - (mdays y).getD (m - 1).toNat 0, rfl, by omega, by omega, by omega, by omega, by rw [show (m + 1 - 1).toNat = m.toNat by omega, st]; omega⟩
  · simp only [h, decide_false]
    refine kf _ ?_
    walk_at "S"
    refine q m (r + 1) m0 m1 (by omega) (by unfold mlen; omega) ?_
    unfold dayOf
    omega
theorem date_of_ok (n : Nat) (day : Int) (h0 : 0 ≤ day) (h1 : day < 109573) (Q : RV → List D → Prop)
    (q : ∀ y m p : Int, 1900 ≤ y → y ≤ 2199 → 1 ≤ m → m ≤ 12 → 1 ≤ p → p ≤ mlen y (m - 1) → dayOf y m p = day → Q (.fz (.tuple [.int y, .int m, .int p])) []) : run tb.G pr (n + 3) "_law_date_of" [.int day] Q := by
  rw [e_law_date_of]; unfold b_law_date_of
  walk_at "S"
  refine ⟨dok (by omega) (by omega) (by omega), ?_⟩
  have yl := ystart_le (1900 + day / 366) (by omega)
  refine wh_inv (m := (2199 - (1900 + day / 366)).toNat) (fun k ρ => ∃ y : Int, ρ = [.fz (.int day), .fz (.int y), .un, .un] ∧ 1900 ≤ y ∧ y ≤ 2199 ∧ ystart y ≤ day ∧ k = (2199 - y).toNat) ⟨_, rfl, by omega, by omega, by omega, rfl⟩ (fun k ρ K hp kt kf => ?_)
  obtain ⟨y, rfl, y0, y1, y2, rfl⟩ := hp
  walk_at "S"
  split
  · refine day_of_ok n _ _ _ (by omega) (by omega) _ ?_
    rw [dayOf_1]
    walk_at "S"
    by_cases h : ystart (y + 1) ≤ day
    · simp only [h, decide_true]
      refine kt _ fun n1 n4 k1 k4 => ?_
      walk_at "S"
      exact k1 (2199 - (y + 1)).toNat _ (by omega) ⟨y + 1, rfl, by omega, by omega, h, rfl⟩
    · simp only [h, decide_false]
      exact kf _ (date_of2 n day y y0 y1 y2 (by omega) Q fun m p a b c d e => q y m p y0 y1 a b c d e)
  · have e : y = 2199 := by omega
    subst e
    exact kf _ (date_of2 n day 2199 y0 y1 y2 (by unfold ystart; simp; omega) Q fun m p a b c d e => q _ m p y0 y1 a b c d e)
theorem sum_take_le (y : Int) (k : Nat) (h : k ≤ 12) : 0 ≤ ((mdays y).take k).sum ∧ ((mdays y).take k).sum ≤ (mdays y).sum := by
  have : ∀ l : Bool, ∀ k, k ≤ 12 → 0 ≤ (([31, 28 + if l = true then 1 else 0, 31, 30, 31, 30, 31, 31, 30, 31, 30, (31 : Int)]).take k).sum ∧ (([31, 28 + if l = true then 1 else 0, 31, 30, 31, 30, 31, 31, 30, 31, 30, (31 : Int)]).take k).sum ≤ ([31, 28 + if l = true then 1 else 0, 31, 30, 31, 30, 31, 31, 30, 31, 30, (31 : Int)]).sum := by
    intro l; cases l <;> decide
  exact this (leap y) k h
theorem dayOf_in (y m p : Int) (y0 : 1900 ≤ y) (y1 : y ≤ 2199) (m0 : 1 ≤ m) (m1 : m ≤ 12) (p0 : 1 ≤ p) (p1 : p ≤ mlen y (m - 1)) : 0 ≤ dayOf y m p ∧ dayOf y m p < 109573 := by
  have h1 := sum_take_le y (m - 1).toNat (by omega)
  have h2 := sum_take_le y m.toNat (by omega)
  have st := sum_take y (m - 1).toNat (by omega)
  rw [show (m - 1).toNat + 1 = m.toNat by omega] at st
  have hs := leap_next y y0 y1
  have hm := sum_mdays y
  unfold mlen at p1
  have a : 0 ≤ ystart y := by unfold ystart; (repeat' split) <;> omega
  have b : ystart (y + 1) ≤ 109573 := by unfold ystart; (repeat' split) <;> omega
  unfold dayOf
  omega
end Pr
end
section
namespace Pr
open PySem TL
theorem r3_get {lo hi c : Int} {i : Nat} {d : D} (h : (rng3D lo hi c)[i]? = some d) : d = .int (lo + i * c) := by
  have hl := (List.getElem?_eq_some_iff.mp h).1
  unfold rng3D at h hl
  rw [List.length_map, List.length_range] at hl
  rw [List.getElem?_map, List.getElem?_range hl] at h
  exact (Option.some.inj h).symm
theorem r3_len (lo hi c : Int) : (rng3D lo hi c).length = (Builtin.Range.rangeSize lo hi c).toNat := by unfold rng3D; simp
theorem small_4 (y : Int) (h : 1899 ≤ y) (h2 : y ≤ 2200) : Builtin.Range.small 1900 y 4 = true := by
  have k : ∀ k : Nat, k < 302 → Builtin.Range.small 1900 (1899 + (k : Int)) 4 = true := by decide +kernel
  have := k (y - 1899).toNat (by omega)
  rwa [show 1899 + (((y - 1899).toNat : Nat) : Int) = y by omega] at this
/-- leap years from 1900 among so many steps of four -/
def cnt4 (i : Nat) : Int := (if i = 0 then 0 else (i : Int) - 1) - if 51 ≤ i then 1 else 0
theorem leap4 (i : Nat) : leap (1900 + i * 4) = (!decide (i = 0) && !decide (i = 50)) := by
  unfold leap
  have e : (1900 + (i : Int) * 4) % 4 = 0 := by omega
  by_cases h : i = 0
  · subst h; decide
  · by_cases h2 : i = 50
    · subst h2; decide
    · have h3 : ¬(1900 + (i : Int) * 4 = 1900) := by omega
      have h4 : ¬(1900 + (i : Int) * 4 = 2100) := by omega
      simp [e, h, h2, h3, h4]
theorem year_start_ok' (n : Nat) (y : Int) (h0 : 1899 ≤ y) (h1 : y ≤ 2200) (Q : RV → List D → Prop) (q : Q (.fz (.int (ystart y))) []) : run tb.G pr (n + 2) "year_start" [.int y] Q := by
  rw [e_year_start]; unfold b_year_start
  simp only [↓TL.x_var, ↓TL.x_lit, ↓TL.x_glb, ↓TL.x_tup, ↓TL.x_lst, ↓TL.x_emp, ↓TL.x_rvs, ↓TL.x_met, ↓TL.x_dc1, ↓TL.x_dc2, ↓TL.x_bin, ↓TL.x_neg, ↓TL.x_nt, ↓TL.x_cmp, ↓TL.x_chn, ↓TL.x_and, ↓TL.x_or, ↓TL.x_ife, ↓TL.x_idx, ↓TL.x_slc, ↓TL.x_call, ↓TL.x_pcall, ↓TL.x_bl1, ↓TL.x_bl2, ↓TL.x_isi, ↓TL.x_pop, ↓TL.x_lc, ↓TL.x_lc2, ↓TL.x_nil, ↓TL.x_cons, ↓TL.x_no, ↓TL.x_so, ↓TL.x_tof, ↓TL.x_tand, ↓TL.x_tor, ↓TL.x_tnt, ↓TL.x_tite, ↓TL.x_ctno, ↓TL.x_ctso, ↓TL.x_iof, ↓TL.x_irng1, ↓TL.x_irng2, ↓TL.x_irng3, ↓TL.x_ienum, ↓TL.x_izip, ↓TL.x_irev, ↓TL.s_asg_, ↓TL.s_par_, ↓TL.s_sub_, ↓TL.s_aug_, ↓TL.s_swp_, ↓TL.s_augs_, ↓TL.s_subW, ↓TL.s_exp_, ↓TL.s_app_, ↓TL.s_ite_, ↓TL.s_for_, ↓TL.s_whl_, ↓TL.s_retN_, ↓TL.s_brk_, ↓TL.s_cnt_, ↓TL.s_pas_, ↓TL.ss_nil_, ↓TL.ss_cons_, ↓TL.o_dc1, ↓TL.s_ret_dc1, ↓TL.o_dc2, ↓TL.s_ret_dc2, ↓TL.o_emp, ↓TL.s_ret_emp, ↓TL.o_rvs, ↓TL.s_ret_rvs, ↓TL.o_met, ↓TL.s_ret_met, ↓TL.o_lit, ↓TL.s_ret_lit, ↓TL.o_glb, ↓TL.s_ret_glb, ↓TL.o_tup, ↓TL.s_ret_tup, ↓TL.o_lst, ↓TL.s_ret_lst, ↓TL.o_bin, ↓TL.s_ret_bin, ↓TL.o_neg, ↓TL.s_ret_neg, ↓TL.o_nt, ↓TL.s_ret_nt, ↓TL.o_cmp, ↓TL.s_ret_cmp, ↓TL.o_chn, ↓TL.s_ret_chn, ↓TL.o_and, ↓TL.s_ret_and, ↓TL.o_or, ↓TL.s_ret_or, ↓TL.o_ife, ↓TL.s_ret_ife, ↓TL.o_idx, ↓TL.s_ret_idx, ↓TL.o_slc, ↓TL.s_ret_slc, ↓TL.o_call, ↓TL.s_ret_call, ↓TL.o_pcall, ↓TL.s_ret_pcall, ↓TL.o_bl1, ↓TL.s_ret_bl1, ↓TL.o_bl2, ↓TL.s_ret_bl2, ↓TL.o_isi, ↓TL.s_ret_isi, ↓TL.o_pop, ↓TL.s_ret_pop, ↓TL.o_lc, ↓TL.s_ret_lc, ↓TL.o_lc2, ↓TL.s_ret_lc2, ↓TL.o_var_, ↓TL.s_retv_, ↓TL.l_val, ↓TL.l_slot, ↓TL.tg_fz, ↓TL.tg_own, ↓TL.tg_tup, ↓TL.tg_nil, ↓TL.tg_cons, ↓TL.wv_fz, ↓TL.wv_own, ↓TL.wv_s, ↓TL.lk_fz, ↓TL.lk_own, ↓TL.lk_bor, ↓TL.lk_s, ↓TL.cs_s, ↓TL.cs_un, ↓TL.cs_fz, ↓TL.cs_own, ↓TL.hd_own, ↓TL.hd_bor, ↓TL.hd_s, ↓TL.sh_own, ↓TL.sh_bor, ↓TL.sh_s, ↓TL.st_0, ↓TL.st_s, ↓TL.fr_nil, ↓TL.fr_cons, ↓TL.wp_nil, ↓TL.wp_cons, ↓TL.bk_nil, ↓TL.bk_cons, ↓TL.b_addI, ↓TL.b_subI, ↓TL.b_mulI, ↓TL.b_divI, ↓TL.b_modI, ↓TL.b_powI, ↓TL.b_addS, ↓TL.b_addT, ↓TL.b_addL, ↓TL.b_mulL, ↓TL.b_mulT, ↓TL.a_add, ↓TL.a_sub, ↓TL.a_mul, ↓TL.c_Eq_int, ↓TL.c_Eq_bool, ↓TL.c_Eq_str, ↓TL.c_Eq_tuple, ↓TL.c_Eq_list, ↓TL.c_NotEq_int, ↓TL.c_NotEq_bool, ↓TL.c_NotEq_str, ↓TL.c_NotEq_tuple, ↓TL.c_NotEq_list, ↓TL.c_Lt, ↓TL.c_LtE, ↓TL.c_Gt, ↓TL.c_GtE, ↓TL.c_LtE_b, ↓TL.c_Is_b, ↓TL.c_Is_n, ↓TL.c_IsNot_b, ↓TL.c_IsNot_n, ↓TL.c_In_tuple, ↓TL.c_In_list, ↓TL.c_NotIn_tuple, ↓TL.c_NotIn_list, ↓TL.t_non, ↓TL.t_bl, ↓TL.t_int, ↓TL.t_str, ↓TL.t_lst, ↓TL.t_tup, ↓TL.i_lst, ↓TL.i_tup, ↓TL.sl_lst, ↓TL.sl_tup, ↓TL.as_i, ↓TL.as_b, ↓TL.it_l, ↓TL.it_t, ↓TL.ls_l, ↓TL.zp_n, ↓TL.zp_f, ↓TL.zp_s, ↓TL.rv_l, ↓TL.rv_t, ↓TL.m_sw, ↓TL.m_ew, ↓TL.m_ix, ↓TL.m_ixd, ↓TL.tm_ixd, ↓TL.tm_sw, ↓TL.tm_ew, ↓TL.tm_ix, ↓TL.c_Lt_t, ↓TL.f_lenL, ↓TL.f_lenT, ↓TL.f_lenS, ↓TL.f_abs, ↓TL.f_min, ↓TL.f_max, ↓TL.f_sum, ↓TL.f_all, ↓TL.f_any, ↓TL.f_sort, ↓TL.f_ssetL, ↓TL.f_ssetT, ↓TL.f_trng, ↓TL.f_denL, ↓TL.f_denT, ↓TL.f_tupL, ↓TL.f_tupT, ↓TL.f_lstL, ↓TL.f_lstT, ↓TL.f_intI, ↓TL.f_intB, ↓TL.f_str, ↓TL.g_min, ↓TL.g_max, ↓TL.rd_fz, ↓TL.rd_own, ↓TL.rs_fz, ↓TL.rs_own, ↓TL.ou_b, ↓TL.at_l0, ↓TL.at_l1, ↓TL.at_l2, ↓TL.at_l3, ↓TL.at_l4, ↓TL.at_l5, ↓TL.at_l6, ↓TL.at_l7, ↓TL.ix_l0, ↓TL.ix_l1, ↓TL.ix_l2, ↓TL.ix_l3, ↓TL.ix_l4, ↓TL.ix_l5, ↓TL.ix_l6, ↓TL.ix_l7, ↓TL.ix_l8, ↓TL.ix_l9, ↓TL.ix_l10, ↓TL.ix_l11, ↓TL.ix_l12, TL.isStr, TL.flatD, TL.inD, TL.isiD, TL.tyD, TL.isNone, TL.eqv_int, TL.eqv_bool, TL.eqv_str, TL.sh_int, TL.sh_bool, TL.sz_le, TL.sz_lt, TL.Sl.held, List.map_cons, List.map_nil, List.cons_append, List.nil_append, List.append_nil, List.length_cons, List.length_nil, List.length_map, List.length_set, List.set_cons_zero, List.set_cons_succ, Nat.reduceLT, List.all_cons, List.all_nil, List.any_cons, List.any_nil, List.zip_cons_cons, List.zip_nil_left, List.zip_nil_right, List.foldl_cons, List.foldl_nil, List.getD_cons_zero, List.getD_cons_succ, List.mem_cons, List.not_mem_nil, forall_eq_or_imp, forall_eq, or_false, false_or, true_or, or_true, true_and, and_true, false_and, and_false, false_implies, implies_true, forall_const, ↓reduceIte, if_true, if_false, Bool.false_eq_true, Bool.true_and, Bool.and_true, Bool.false_and, Bool.and_false, Bool.or_false, Bool.false_or, Bool.or_true, Bool.true_or, Bool.not_true, Bool.not_false, Bool.and_eq_true, Bool.or_eq_true, Bool.not_eq_true', decide_eq_true_eq, decide_eq_false_iff_not, ne_eq, not_false_eq_true, not_true_eq_false, reduceCtorEq, decide_true, decide_false, Nat.reduceAdd, Nat.reduceLeDiff, Nat.reduceEqDiff, TL.all_isInt, TL.map_intOf, TL.all_isBool, TL.map_boolOf, TL.take_ints, TL.drop_ints, List.take_succ_cons, List.take_zero, List.drop_succ_cons, List.drop_zero, List.take_nil, List.drop_nil, TL.fmod_n, TL.fdiv_n, TL.cut_to, TL.cut_from, TL.cut_mid, Int.reduceEq, Int.reduceNe, Int.reduceNeg, Int.reduceAdd, Int.reduceMul, Int.reduceSub, Int.reduceLT, Int.reduceLE, Int.reduceGT, Int.reduceGE, Int.reducePow, Int.reduceToNat, Int.add_zero, Int.zero_add, String.reduceEq, String.reduceBEq, ↓x_glb (show tb.G "FIRST_YEAR" = some (.int 1900) from rfl)]
  refine ⟨mok (by omega) (by omega) (by omega) (by omega), by decide, small_4 y h0 h1, ?_⟩
  refine lc_inv (fun i acc ρ => (acc.length : Int) = cnt4 i ∧ ∃ s, ρ = [.fz (.int y), .fz (.int ((y - 1900) * 365)), s]) ⟨by simp [cnt4], _, rfl⟩ (fun i d acc ρ K hd hp hk => ?_) (fun acc ρ hp => ?_)
  · obtain ⟨ha, s, rfl⟩ := hp
    cases r3_get hd
    have hi := (List.getElem?_eq_some_iff.mp hd).1
    rw [r3_len] at hi
    have hi2 : i ≤ 75 := by
      unfold Builtin.Range.rangeSize at hi
      simp only [show (4 : Int) > 0 by decide, if_true] at hi
      split at hi <;> omega
    simp only [↓TL.x_var, ↓TL.x_lit, ↓TL.x_glb, ↓TL.x_tup, ↓TL.x_lst, ↓TL.x_emp, ↓TL.x_rvs, ↓TL.x_met, ↓TL.x_dc1, ↓TL.x_dc2, ↓TL.x_bin, ↓TL.x_neg, ↓TL.x_nt, ↓TL.x_cmp, ↓TL.x_chn, ↓TL.x_and, ↓TL.x_or, ↓TL.x_ife, ↓TL.x_idx, ↓TL.x_slc, ↓TL.x_call, ↓TL.x_pcall, ↓TL.x_bl1, ↓TL.x_bl2, ↓TL.x_isi, ↓TL.x_pop, ↓TL.x_lc, ↓TL.x_lc2, ↓TL.x_nil, ↓TL.x_cons, ↓TL.x_no, ↓TL.x_so, ↓TL.x_tof, ↓TL.x_tand, ↓TL.x_tor, ↓TL.x_tnt, ↓TL.x_tite, ↓TL.x_ctno, ↓TL.x_ctso, ↓TL.x_iof, ↓TL.x_irng1, ↓TL.x_irng2, ↓TL.x_irng3, ↓TL.x_ienum, ↓TL.x_izip, ↓TL.x_irev, ↓TL.s_asg_, ↓TL.s_par_, ↓TL.s_sub_, ↓TL.s_aug_, ↓TL.s_swp_, ↓TL.s_augs_, ↓TL.s_subW, ↓TL.s_exp_, ↓TL.s_app_, ↓TL.s_ite_, ↓TL.s_for_, ↓TL.s_whl_, ↓TL.s_retN_, ↓TL.s_brk_, ↓TL.s_cnt_, ↓TL.s_pas_, ↓TL.ss_nil_, ↓TL.ss_cons_, ↓TL.o_dc1, ↓TL.s_ret_dc1, ↓TL.o_dc2, ↓TL.s_ret_dc2, ↓TL.o_emp, ↓TL.s_ret_emp, ↓TL.o_rvs, ↓TL.s_ret_rvs, ↓TL.o_met, ↓TL.s_ret_met, ↓TL.o_lit, ↓TL.s_ret_lit, ↓TL.o_glb, ↓TL.s_ret_glb, ↓TL.o_tup, ↓TL.s_ret_tup, ↓TL.o_lst, ↓TL.s_ret_lst, ↓TL.o_bin, ↓TL.s_ret_bin, ↓TL.o_neg, ↓TL.s_ret_neg, ↓TL.o_nt, ↓TL.s_ret_nt, ↓TL.o_cmp, ↓TL.s_ret_cmp, ↓TL.o_chn, ↓TL.s_ret_chn, ↓TL.o_and, ↓TL.s_ret_and, ↓TL.o_or, ↓TL.s_ret_or, ↓TL.o_ife, ↓TL.s_ret_ife, ↓TL.o_idx, ↓TL.s_ret_idx, ↓TL.o_slc, ↓TL.s_ret_slc, ↓TL.o_call, ↓TL.s_ret_call, ↓TL.o_pcall, ↓TL.s_ret_pcall, ↓TL.o_bl1, ↓TL.s_ret_bl1, ↓TL.o_bl2, ↓TL.s_ret_bl2, ↓TL.o_isi, ↓TL.s_ret_isi, ↓TL.o_pop, ↓TL.s_ret_pop, ↓TL.o_lc, ↓TL.s_ret_lc, ↓TL.o_lc2, ↓TL.s_ret_lc2, ↓TL.o_var_, ↓TL.s_retv_, ↓TL.l_val, ↓TL.l_slot, ↓TL.tg_fz, ↓TL.tg_own, ↓TL.tg_tup, ↓TL.tg_nil, ↓TL.tg_cons, ↓TL.wv_fz, ↓TL.wv_own, ↓TL.wv_s, ↓TL.lk_fz, ↓TL.lk_own, ↓TL.lk_bor, ↓TL.lk_s, ↓TL.cs_s, ↓TL.cs_un, ↓TL.cs_fz, ↓TL.cs_own, ↓TL.hd_own, ↓TL.hd_bor, ↓TL.hd_s, ↓TL.sh_own, ↓TL.sh_bor, ↓TL.sh_s, ↓TL.st_0, ↓TL.st_s, ↓TL.fr_nil, ↓TL.fr_cons, ↓TL.wp_nil, ↓TL.wp_cons, ↓TL.bk_nil, ↓TL.bk_cons, ↓TL.b_addI, ↓TL.b_subI, ↓TL.b_mulI, ↓TL.b_divI, ↓TL.b_modI, ↓TL.b_powI, ↓TL.b_addS, ↓TL.b_addT, ↓TL.b_addL, ↓TL.b_mulL, ↓TL.b_mulT, ↓TL.a_add, ↓TL.a_sub, ↓TL.a_mul, ↓TL.c_Eq_int, ↓TL.c_Eq_bool, ↓TL.c_Eq_str, ↓TL.c_Eq_tuple, ↓TL.c_Eq_list, ↓TL.c_NotEq_int, ↓TL.c_NotEq_bool, ↓TL.c_NotEq_str, ↓TL.c_NotEq_tuple, ↓TL.c_NotEq_list, ↓TL.c_Lt, ↓TL.c_LtE, ↓TL.c_Gt, ↓TL.c_GtE, ↓TL.c_LtE_b, ↓TL.c_Is_b, ↓TL.c_Is_n, ↓TL.c_IsNot_b, ↓TL.c_IsNot_n, ↓TL.c_In_tuple, ↓TL.c_In_list, ↓TL.c_NotIn_tuple, ↓TL.c_NotIn_list, ↓TL.t_non, ↓TL.t_bl, ↓TL.t_int, ↓TL.t_str, ↓TL.t_lst, ↓TL.t_tup, ↓TL.i_lst, ↓TL.i_tup, ↓TL.sl_lst, ↓TL.sl_tup, ↓TL.as_i, ↓TL.as_b, ↓TL.it_l, ↓TL.it_t, ↓TL.ls_l, ↓TL.zp_n, ↓TL.zp_f, ↓TL.zp_s, ↓TL.rv_l, ↓TL.rv_t, ↓TL.m_sw, ↓TL.m_ew, ↓TL.m_ix, ↓TL.m_ixd, ↓TL.tm_ixd, ↓TL.tm_sw, ↓TL.tm_ew, ↓TL.tm_ix, ↓TL.c_Lt_t, ↓TL.f_lenL, ↓TL.f_lenT, ↓TL.f_lenS, ↓TL.f_abs, ↓TL.f_min, ↓TL.f_max, ↓TL.f_sum, ↓TL.f_all, ↓TL.f_any, ↓TL.f_sort, ↓TL.f_ssetL, ↓TL.f_ssetT, ↓TL.f_trng, ↓TL.f_denL, ↓TL.f_denT, ↓TL.f_tupL, ↓TL.f_tupT, ↓TL.f_lstL, ↓TL.f_lstT, ↓TL.f_intI, ↓TL.f_intB, ↓TL.f_str, ↓TL.g_min, ↓TL.g_max, ↓TL.rd_fz, ↓TL.rd_own, ↓TL.rs_fz, ↓TL.rs_own, ↓TL.ou_b, ↓TL.at_l0, ↓TL.at_l1, ↓TL.at_l2, ↓TL.at_l3, ↓TL.at_l4, ↓TL.at_l5, ↓TL.at_l6, ↓TL.at_l7, ↓TL.ix_l0, ↓TL.ix_l1, ↓TL.ix_l2, ↓TL.ix_l3, ↓TL.ix_l4, ↓TL.ix_l5, ↓TL.ix_l6, ↓TL.ix_l7, ↓TL.ix_l8, ↓TL.ix_l9, ↓TL.ix_l10, ↓TL.ix_l11, ↓TL.ix_l12, TL.isStr, TL.flatD, TL.inD, TL.isiD, TL.tyD, TL.isNone, TL.eqv_int, TL.eqv_bool, TL.eqv_str, TL.sh_int, TL.sh_bool, TL.sz_le, TL.sz_lt, TL.Sl.held, List.map_cons, List.map_nil, List.cons_append, List.nil_append, List.append_nil, List.length_cons, List.length_nil, List.length_map, List.length_set, List.set_cons_zero, List.set_cons_succ, Nat.reduceLT, List.all_cons, List.all_nil, List.any_cons, List.any_nil, List.zip_cons_cons, List.zip_nil_left, List.zip_nil_right, List.foldl_cons, List.foldl_nil, List.getD_cons_zero, List.getD_cons_succ, List.mem_cons, List.not_mem_nil, forall_eq_or_imp, forall_eq, or_false, false_or, true_or, or_true, true_and, and_true, false_and, and_false, false_implies, implies_true, forall_const, ↓reduceIte, if_true, if_false, Bool.false_eq_true, Bool.true_and, Bool.and_true, Bool.false_and, Bool.and_false, Bool.or_false, Bool.false_or, Bool.or_true, Bool.true_or, Bool.not_true, Bool.not_false, Bool.and_eq_true, Bool.or_eq_true, Bool.not_eq_true', decide_eq_true_eq, decide_eq_false_iff_not, ne_eq, not_false_eq_true, not_true_eq_false, reduceCtorEq, decide_true, decide_false, Nat.reduceAdd, Nat.reduceLeDiff, Nat.reduceEqDiff, TL.all_isInt, TL.map_intOf, TL.all_isBool, TL.map_boolOf, TL.take_ints, TL.drop_ints, List.take_succ_cons, List.take_zero, List.drop_succ_cons, List.drop_zero, List.take_nil, List.drop_nil, TL.fmod_n, TL.fdiv_n, TL.cut_to, TL.cut_from, TL.cut_mid, Int.reduceEq, Int.reduceNe, Int.reduceNeg, Int.reduceAdd, Int.reduceMul, Int.reduceSub, Int.reduceLT, Int.reduceLE, Int.reduceGT, Int.reduceGE, Int.reducePow, Int.reduceToNat, Int.add_zero, Int.zero_add, String.reduceEq, String.reduceBEq, is_leap_eq, leap4]
    have al : acc.length < 1000 := by unfold cnt4 at ha; split at ha <;> split at ha <;> omega
    have al2 : acc.length < sizeLine := Nat.lt_of_lt_of_le al (by decide)
    by_cases h : i = 0
    · simp only [h, ↓TL.x_var, ↓TL.x_lit, ↓TL.x_glb, ↓TL.x_tup, ↓TL.x_lst, ↓TL.x_emp, ↓TL.x_rvs, ↓TL.x_met, ↓TL.x_dc1, ↓TL.x_dc2, ↓TL.x_bin, ↓TL.x_neg, ↓TL.x_nt, ↓TL.x_cmp, ↓TL.x_chn, ↓TL.x_and, ↓TL.x_or, ↓TL.x_ife, ↓TL.x_idx, ↓TL.x_slc, ↓TL.x_call, ↓TL.x_pcall, ↓TL.x_bl1, ↓TL.x_bl2, ↓TL.x_isi, ↓TL.x_pop, ↓TL.x_lc, ↓TL.x_lc2, ↓TL.x_nil, ↓TL.x_cons, ↓TL.x_no, ↓TL.x_so, ↓TL.x_tof, ↓TL.x_tand, ↓TL.x_tor, ↓TL.x_tnt, ↓TL.x_tite, ↓TL.x_ctno, ↓TL.x_ctso, ↓TL.x_iof, ↓TL.x_irng1, ↓TL.x_irng2, ↓TL.x_irng3, ↓TL.x_ienum, ↓TL.x_izip, ↓TL.x_irev, ↓TL.s_asg_, ↓TL.s_par_, ↓TL.s_sub_, ↓TL.s_aug_, ↓TL.s_swp_, ↓TL.s_augs_, ↓TL.s_subW, ↓TL.s_exp_, ↓TL.s_app_, ↓TL.s_ite_, ↓TL.s_for_, ↓TL.s_whl_, ↓TL.s_retN_, ↓TL.s_brk_, ↓TL.s_cnt_, ↓TL.s_pas_, ↓TL.ss_nil_, ↓TL.ss_cons_, ↓TL.o_dc1, ↓TL.s_ret_dc1, ↓TL.o_dc2, ↓TL.s_ret_dc2, ↓TL.o_emp, ↓TL.s_ret_emp, ↓TL.o_rvs, ↓TL.s_ret_rvs, ↓TL.o_met, ↓TL.s_ret_met, ↓TL.o_lit, ↓TL.s_ret_lit, ↓TL.o_glb, ↓TL.s_ret_glb, ↓TL.o_tup, ↓TL.s_ret_tup, ↓TL.o_lst, ↓TL.s_ret_lst, ↓TL.o_bin, ↓TL.s_ret_bin, ↓TL.o_neg, ↓TL.s_ret_neg, ↓TL.o_nt, ↓TL.s_ret_nt, ↓TL.o_cmp, ↓TL.s_ret_cmp, ↓TL.o_chn, ↓TL.s_ret_chn, ↓TL.o_and, ↓TL.s_ret_and, ↓TL.o_or, ↓TL.s_ret_or, ↓TL.o_ife, ↓TL.s_ret_ife, ↓TL.o_idx, ↓TL.s_ret_idx, ↓TL.o_slc, ↓TL.s_ret_slc, ↓TL.o_call, ↓TL.s_ret_call, ↓TL.o_pcall, ↓TL.s_ret_pcall, ↓TL.o_bl1, ↓TL.s_ret_bl1, ↓TL.o_bl2, ↓TL.s_ret_bl2, ↓TL.o_isi, ↓TL.s_ret_isi, ↓TL.o_pop, ↓TL.s_ret_pop, ↓TL.o_lc, ↓TL.s_ret_lc, ↓TL.o_lc2, ↓TL.s_ret_lc2, ↓TL.o_var_, ↓TL.s_retv_, ↓TL.l_val, ↓TL.l_slot, ↓TL.tg_fz, ↓TL.tg_own, ↓TL.tg_tup, ↓TL.tg_nil, ↓TL.tg_cons, ↓TL.wv_fz, ↓TL.wv_own, ↓TL.wv_s, ↓TL.lk_fz, ↓TL.lk_own, ↓TL.lk_bor, ↓TL.lk_s, ↓TL.cs_s, ↓TL.cs_un, ↓TL.cs_fz, ↓TL.cs_own, ↓TL.hd_own, ↓TL.hd_bor, ↓TL.hd_s, ↓TL.sh_own, ↓TL.sh_bor, ↓TL.sh_s, ↓TL.st_0, ↓TL.st_s, ↓TL.fr_nil, ↓TL.fr_cons, ↓TL.wp_nil, ↓TL.wp_cons, ↓TL.bk_nil, ↓TL.bk_cons, ↓TL.b_addI, ↓TL.b_subI, ↓TL.b_mulI, ↓TL.b_divI, ↓TL.b_modI, ↓TL.b_powI, ↓TL.b_addS, ↓TL.b_addT, ↓TL.b_addL, ↓TL.b_mulL, ↓TL.b_mulT, ↓TL.a_add, ↓TL.a_sub, ↓TL.a_mul, ↓TL.c_Eq_int, ↓TL.c_Eq_bool, ↓TL.c_Eq_str, ↓TL.c_Eq_tuple, ↓TL.c_Eq_list, ↓TL.c_NotEq_int, ↓TL.c_NotEq_bool, ↓TL.c_NotEq_str, ↓TL.c_NotEq_tuple, ↓TL.c_NotEq_list, ↓TL.c_Lt, ↓TL.c_LtE, ↓TL.c_Gt, ↓TL.c_GtE, ↓TL.c_LtE_b, ↓TL.c_Is_b, ↓TL.c_Is_n, ↓TL.c_IsNot_b, ↓TL.c_IsNot_n, ↓TL.c_In_tuple, ↓TL.c_In_list, ↓TL.c_NotIn_tuple, ↓TL.c_NotIn_list, ↓TL.t_non, ↓TL.t_bl, ↓TL.t_int, ↓TL.t_str, ↓TL.t_lst, ↓TL.t_tup, ↓TL.i_lst, ↓TL.i_tup, ↓TL.sl_lst, ↓TL.sl_tup, ↓TL.as_i, ↓TL.as_b, ↓TL.it_l, ↓TL.it_t, ↓TL.ls_l, ↓TL.zp_n, ↓TL.zp_f, ↓TL.zp_s, ↓TL.rv_l, ↓TL.rv_t, ↓TL.m_sw, ↓TL.m_ew, ↓TL.m_ix, ↓TL.m_ixd, ↓TL.tm_ixd, ↓TL.tm_sw, ↓TL.tm_ew, ↓TL.tm_ix, ↓TL.c_Lt_t, ↓TL.f_lenL, ↓TL.f_lenT, ↓TL.f_lenS, ↓TL.f_abs, ↓TL.f_min, ↓TL.f_max, ↓TL.f_sum, ↓TL.f_all, ↓TL.f_any, ↓TL.f_sort, ↓TL.f_ssetL, ↓TL.f_ssetT, ↓TL.f_trng, ↓TL.f_denL, ↓TL.f_denT, ↓TL.f_tupL, ↓TL.f_tupT, ↓TL.f_lstL, ↓TL.f_lstT, ↓TL.f_intI, ↓TL.f_intB, ↓TL.f_str, ↓TL.g_min, ↓TL.g_max, ↓TL.rd_fz, ↓TL.rd_own, ↓TL.rs_fz, ↓TL.rs_own, ↓TL.ou_b, ↓TL.at_l0, ↓TL.at_l1, ↓TL.at_l2, ↓TL.at_l3, ↓TL.at_l4, ↓TL.at_l5, ↓TL.at_l6, ↓TL.at_l7, ↓TL.ix_l0, ↓TL.ix_l1, ↓TL.ix_l2, ↓TL.ix_l3, ↓TL.ix_l4, ↓TL.ix_l5, ↓TL.ix_l6, ↓TL.ix_l7, ↓TL.ix_l8, ↓TL.ix_l9, ↓TL.ix_l10, ↓TL.ix_l11, ↓TL.ix_l12, TL.isStr, TL.flatD, TL.inD, TL.isiD, TL.tyD, TL.isNone, TL.eqv_int, TL.eqv_bool, TL.eqv_str, TL.sh_int, TL.sh_bool, TL.sz_le, TL.sz_lt, TL.Sl.held, List.map_cons, List.map_nil, List.cons_append, List.nil_append, List.append_nil, List.length_cons, List.length_nil, List.length_map, List.length_set, List.set_cons_zero, List.set_cons_succ, Nat.reduceLT, List.all_cons, List.all_nil, List.any_cons, List.any_nil, List.zip_cons_cons, List.zip_nil_left, List.zip_nil_right, List.foldl_cons, List.foldl_nil, List.getD_cons_zero, List.getD_cons_succ, List.mem_cons, List.not_mem_nil, forall_eq_or_imp, forall_eq, or_false, false_or, true_or, or_true, true_and, and_true, false_and, and_false, false_implies, implies_true, forall_const, ↓reduceIte, if_true, if_false, Bool.false_eq_true, Bool.true_and, Bool.and_true, Bool.false_and, Bool.and_false, Bool.or_false, Bool.false_or, Bool.or_true, Bool.true_or, Bool.not_true, Bool.not_false, Bool.and_eq_true, Bool.or_eq_true, Bool.not_eq_true', decide_eq_true_eq, decide_eq_false_iff_not, ne_eq, not_false_eq_true, not_true_eq_false, reduceCtorEq, decide_true, decide_false, Nat.reduceAdd, Nat.reduceLeDiff, Nat.reduceEqDiff, TL.all_isInt, TL.map_intOf, TL.all_isBool, TL.map_boolOf, TL.take_ints, TL.drop_ints, List.take_succ_cons, List.take_zero, List.drop_succ_cons, List.drop_zero, List.take_nil, List.drop_nil, TL.fmod_n, TL.fdiv_n, TL.cut_to, TL.cut_from, TL.cut_mid, Int.reduceEq, Int.reduceNe, Int.reduceNeg, Int.reduceAdd, Int.reduceMul, Int.reduceSub, Int.reduceLT, Int.reduceLE, Int.reduceGT, Int.reduceGE, Int.reducePow, Int.reduceToNat, Int.add_zero, Int.zero_add, String.reduceEq, String.reduceBEq]
      refine hk _ _ ⟨?_, _, rfl⟩
      rw [ha, h]; decide
    · by_cases h2 : i = 50
      · simp only [h2, ↓TL.x_var, ↓TL.x_lit, ↓TL.x_glb, ↓TL.x_tup, ↓TL.x_lst, ↓TL.x_emp, ↓TL.x_rvs, ↓TL.x_met, ↓TL.x_dc1, ↓TL.x_dc2, ↓TL.x_bin, ↓TL.x_neg, ↓TL.x_nt, ↓TL.x_cmp, ↓TL.x_chn, ↓TL.x_and, ↓TL.x_or, ↓TL.x_ife, ↓TL.x_idx, ↓TL.x_slc, ↓TL.x_call, ↓TL.x_pcall, ↓TL.x_bl1, ↓TL.x_bl2, ↓TL.x_isi, ↓TL.x_pop, ↓TL.x_lc, ↓TL.x_lc2, ↓TL.x_nil, ↓TL.x_cons, ↓TL.x_no, ↓TL.x_so, ↓TL.x_tof, ↓TL.x_tand, ↓TL.x_tor, ↓TL.x_tnt, ↓TL.x_tite, ↓TL.x_ctno, ↓TL.x_ctso, ↓TL.x_iof, ↓TL.x_irng1, ↓TL.x_irng2, ↓TL.x_irng3, ↓TL.x_ienum, ↓TL.x_izip, ↓TL.x_irev, ↓TL.s_asg_, ↓TL.s_par_, ↓TL.s_sub_, ↓TL.s_aug_, ↓TL.s_swp_, ↓TL.s_augs_, ↓TL.s_subW, ↓TL.s_exp_, ↓TL.s_app_, ↓TL.s_ite_, ↓TL.s_for_, ↓TL.s_whl_, ↓TL.s_retN_, ↓TL.s_brk_, ↓TL.s_cnt_, ↓TL.s_pas_, ↓TL.ss_nil_, ↓TL.ss_cons_, ↓TL.o_dc1, ↓TL.s_ret_dc1, ↓TL.o_dc2, ↓TL.s_ret_dc2, ↓TL.o_emp, ↓TL.s_ret_emp, ↓TL.o_rvs, ↓TL.s_ret_rvs, ↓TL.o_met, ↓TL.s_ret_met, ↓TL.o_lit, ↓TL.s_ret_lit, ↓TL.o_glb, ↓TL.s_ret_glb, ↓TL.o_tup, ↓TL.s_ret_tup, ↓TL.o_lst, ↓TL.s_ret_lst, ↓TL.o_bin, ↓TL.s_ret_bin, ↓TL.o_neg, ↓TL.s_ret_neg, ↓TL.o_nt, ↓TL.s_ret_nt, ↓TL.o_cmp, ↓TL.s_ret_cmp, ↓TL.o_chn, ↓TL.s_ret_chn, ↓TL.o_and, ↓TL.s_ret_and, ↓TL.o_or, ↓TL.s_ret_or, ↓TL.o_ife, ↓TL.s_ret_ife, ↓TL.o_idx, ↓TL.s_ret_idx, ↓TL.o_slc, ↓TL.s_ret_slc, ↓TL.o_call, ↓TL.s_ret_call, ↓TL.o_pcall, ↓TL.s_ret_pcall, ↓TL.o_bl1, ↓TL.s_ret_bl1, ↓TL.o_bl2, ↓TL.s_ret_bl2, ↓TL.o_isi, ↓TL.s_ret_isi, ↓TL.o_pop, ↓TL.s_ret_pop, ↓TL.o_lc, ↓TL.s_ret_lc, ↓TL.o_lc2, ↓TL.s_ret_lc2, ↓TL.o_var_, ↓TL.s_retv_, ↓TL.l_val, ↓TL.l_slot, ↓TL.tg_fz, ↓TL.tg_own, ↓TL.tg_tup, ↓TL.tg_nil, ↓TL.tg_cons, ↓TL.wv_fz, ↓TL.wv_own, ↓TL.wv_s, ↓TL.lk_fz, ↓TL.lk_own, ↓TL.lk_bor, ↓TL.lk_s, ↓TL.cs_s, ↓TL.cs_un, ↓TL.cs_fz, ↓TL.cs_own, ↓TL.hd_own, ↓TL.hd_bor, ↓TL.hd_s, ↓TL.sh_own, ↓TL.sh_bor, ↓TL.sh_s, ↓TL.st_0, ↓TL.st_s, ↓TL.fr_nil, ↓TL.fr_cons, ↓TL.wp_nil, ↓TL.wp_cons, ↓TL.bk_nil, ↓TL.bk_cons, ↓TL.b_addI, ↓TL.b_subI, ↓TL.b_mulI, ↓TL.b_divI, ↓TL.b_modI, ↓TL.b_powI, ↓TL.b_addS, ↓TL.b_addT, ↓TL.b_addL, ↓TL.b_mulL, ↓TL.b_mulT, ↓TL.a_add, ↓TL.a_sub, ↓TL.a_mul, ↓TL.c_Eq_int, ↓TL.c_Eq_bool, ↓TL.c_Eq_str, ↓TL.c_Eq_tuple, ↓TL.c_Eq_list, ↓TL.c_NotEq_int, ↓TL.c_NotEq_bool, ↓TL.c_NotEq_str, ↓TL.c_NotEq_tuple, ↓TL.c_NotEq_list, ↓TL.c_Lt, ↓TL.c_LtE, ↓TL.c_Gt, ↓TL.c_GtE, ↓TL.c_LtE_b, ↓TL.c_Is_b, ↓TL.c_Is_n, ↓TL.c_IsNot_b, ↓TL.c_IsNot_n, ↓TL.c_In_tuple, ↓TL.c_In_list, ↓TL.c_NotIn_tuple, ↓TL.c_NotIn_list, ↓TL.t_non, ↓TL.t_bl, ↓TL.t_int, ↓TL.t_str, ↓TL.t_lst, ↓TL.t_tup, ↓TL.i_lst, ↓TL.i_tup, ↓TL.sl_lst, ↓TL.sl_tup, ↓TL.as_i, ↓TL.as_b, ↓TL.it_l, ↓TL.it_t, ↓TL.ls_l, ↓TL.zp_n, ↓TL.zp_f, ↓TL.zp_s, ↓TL.rv_l, ↓TL.rv_t, ↓TL.m_sw, ↓TL.m_ew, ↓TL.m_ix, ↓TL.m_ixd, ↓TL.tm_ixd, ↓TL.tm_sw, ↓TL.tm_ew, ↓TL.tm_ix, ↓TL.c_Lt_t, ↓TL.f_lenL, ↓TL.f_lenT, ↓TL.f_lenS, ↓TL.f_abs, ↓TL.f_min, ↓TL.f_max, ↓TL.f_sum, ↓TL.f_all, ↓TL.f_any, ↓TL.f_sort, ↓TL.f_ssetL, ↓TL.f_ssetT, ↓TL.f_trng, ↓TL.f_denL, ↓TL.f_denT, ↓TL.f_tupL, ↓TL.f_tupT, ↓TL.f_lstL, ↓TL.f_lstT, ↓TL.f_intI, ↓TL.f_intB, ↓TL.f_str, ↓TL.g_min, ↓TL.g_max, ↓TL.rd_fz, ↓TL.rd_own, ↓TL.rs_fz, ↓TL.rs_own, ↓TL.ou_b, ↓TL.at_l0, ↓TL.at_l1, ↓TL.at_l2, ↓TL.at_l3, ↓TL.at_l4, ↓TL.at_l5, ↓TL.at_l6, ↓TL.at_l7, ↓TL.ix_l0, ↓TL.ix_l1, ↓TL.ix_l2, ↓TL.ix_l3, ↓TL.ix_l4, ↓TL.ix_l5, ↓TL.ix_l6, ↓TL.ix_l7, ↓TL.ix_l8, ↓TL.ix_l9, ↓TL.ix_l10, ↓TL.ix_l11, ↓TL.ix_l12, TL.isStr, TL.flatD, TL.inD, TL.isiD, TL.tyD, TL.isNone, TL.eqv_int, TL.eqv_bool, TL.eqv_str, TL.sh_int, TL.sh_bool, TL.sz_le, TL.sz_lt, TL.Sl.held, List.map_cons, List.map_nil, List.cons_append, List.nil_append, List.append_nil, List.length_cons, List.length_nil, List.length_map, List.length_set, List.set_cons_zero, List.set_cons_succ, Nat.reduceLT, List.all_cons, List.all_nil, List.any_cons, List.any_nil, List.zip_cons_cons, List.zip_nil_left, List.zip_nil_right, List.foldl_cons, List.foldl_nil, List.getD_cons_zero, List.getD_cons_succ, List.mem_cons, List.not_mem_nil, forall_eq_or_imp, forall_eq, or_false, false_or, true_or, or_true, true_and, and_true, false_and, and_false, false_implies, implies_true, forall_const, ↓reduceIte, if_true, if_false, Bool.false_eq_true, Bool.true_and, Bool.and_true, Bool.false_and, Bool.and_false, Bool.or_false, Bool.false_or, Bool.or_true, Bool.true_or, Bool.not_true, Bool.not_false, Bool.and_eq_true, Bool.or_eq_true, Bool.not_eq_true', decide_eq_true_eq, decide_eq_false_iff_not, ne_eq, not_false_eq_true, not_true_eq_false, reduceCtorEq, decide_true, decide_false, Nat.reduceAdd, Nat.reduceLeDiff, Nat.reduceEqDiff, TL.all_isInt, TL.map_intOf, TL.all_isBool, TL.map_boolOf, TL.take_ints, TL.drop_ints, List.take_succ_cons, List.take_zero, List.drop_succ_cons, List.drop_zero, List.take_nil, List.drop_nil, TL.fmod_n, TL.fdiv_n, TL.cut_to, TL.cut_from, TL.cut_mid, Int.reduceEq, Int.reduceNe, Int.reduceNeg, Int.reduceAdd, Int.reduceMul, Int.reduceSub, Int.reduceLT, Int.reduceLE, Int.reduceGT, Int.reduceGE, Int.reducePow, Int.reduceToNat, Int.add_zero, Int.zero_add, String.reduceEq, String.reduceBEq]
        refine hk _ _ ⟨?_, _, rfl⟩
        rw [ha, h2]; decide
      · simp only [h, h2, ↓TL.x_var, ↓TL.x_lit, ↓TL.x_glb, ↓TL.x_tup, ↓TL.x_lst, ↓TL.x_emp, ↓TL.x_rvs, ↓TL.x_met, ↓TL.x_dc1, ↓TL.x_dc2, ↓TL.x_bin, ↓TL.x_neg, ↓TL.x_nt, ↓TL.x_cmp, ↓TL.x_chn, ↓TL.x_and, ↓TL.x_or, ↓TL.x_ife, ↓TL.x_idx, ↓TL.x_slc, ↓TL.x_call, ↓TL.x_pcall, ↓TL.x_bl1, ↓TL.x_bl2, ↓TL.x_isi, ↓TL.x_pop, ↓TL.x_lc, ↓TL.x_lc2, ↓TL.x_nil, ↓TL.x_cons, ↓TL.x_no, ↓TL.x_so, ↓TL.x_tof, ↓TL.x_tand, ↓TL.x_tor, ↓TL.x_tnt, ↓TL.x_tite, ↓TL.x_ctno, ↓TL.x_ctso, ↓TL.x_iof, ↓TL.x_irng1, ↓TL.x_irng2, ↓TL.x_irng3, ↓TL.x_ienum, ↓TL.x_izip, ↓TL.x_irev, ↓TL.s_asg_, ↓TL.s_par_, ↓TL.s_sub_, ↓TL.s_aug_, ↓TL.s_swp_, ↓TL.s_augs_, ↓TL.s_subW, ↓TL.s_exp_, ↓TL.s_app_, ↓TL.s_ite_, ↓TL.s_for_, ↓TL.s_whl_, ↓TL.s_retN_, ↓TL.s_brk_, ↓TL.s_cnt_, ↓TL.s_pas_, ↓TL.ss_nil_, ↓TL.ss_cons_, ↓TL.o_dc1, ↓TL.s_ret_dc1, ↓TL.o_dc2, ↓TL.s_ret_dc2, ↓TL.o_emp, ↓TL.s_ret_emp, ↓TL.o_rvs, ↓TL.s_ret_rvs, ↓TL.o_met, ↓TL.s_ret_met, ↓TL.o_lit, ↓TL.s_ret_lit, ↓TL.o_glb, ↓TL.s_ret_glb, ↓TL.o_tup, ↓TL.s_ret_tup, ↓TL.o_lst, ↓TL.s_ret_lst, ↓TL.o_bin, ↓TL.s_ret_bin, ↓TL.o_neg, ↓TL.s_ret_neg, ↓TL.o_nt, ↓TL.s_ret_nt, ↓TL.o_cmp, ↓TL.s_ret_cmp, ↓TL.o_chn, ↓TL.s_ret_chn, ↓TL.o_and, ↓TL.s_ret_and, ↓TL.o_or, ↓TL.s_ret_or, ↓TL.o_ife, ↓TL.s_ret_ife, ↓TL.o_idx, ↓TL.s_ret_idx, ↓TL.o_slc, ↓TL.s_ret_slc, ↓TL.o_call, ↓TL.s_ret_call, ↓TL.o_pcall, ↓TL.s_ret_pcall, ↓TL.o_bl1, ↓TL.s_ret_bl1, ↓TL.o_bl2, ↓TL.s_ret_bl2, ↓TL.o_isi, ↓TL.s_ret_isi, ↓TL.o_pop, ↓TL.s_ret_pop, ↓TL.o_lc, ↓TL.s_ret_lc, ↓TL.o_lc2, ↓TL.s_ret_lc2, ↓TL.o_var_, ↓TL.s_retv_, ↓TL.l_val, ↓TL.l_slot, ↓TL.tg_fz, ↓TL.tg_own, ↓TL.tg_tup, ↓TL.tg_nil, ↓TL.tg_cons, ↓TL.wv_fz, ↓TL.wv_own, ↓TL.wv_s, ↓TL.lk_fz, ↓TL.lk_own, ↓TL.lk_bor, ↓TL.lk_s, ↓TL.cs_s, ↓TL.cs_un, ↓TL.cs_fz, ↓TL.cs_own, ↓TL.hd_own, ↓TL.hd_bor, ↓TL.hd_s, ↓TL.sh_own, ↓TL.sh_bor, ↓TL.sh_s, ↓TL.st_0, ↓TL.st_s, ↓TL.fr_nil, ↓TL.fr_cons, ↓TL.wp_nil, ↓TL.wp_cons, ↓TL.bk_nil, ↓TL.bk_cons, ↓TL.b_addI, ↓TL.b_subI, ↓TL.b_mulI, ↓TL.b_divI, ↓TL.b_modI, ↓TL.b_powI, ↓TL.b_addS, ↓TL.b_addT, ↓TL.b_addL, ↓TL.b_mulL, ↓TL.b_mulT, ↓TL.a_add, ↓TL.a_sub, ↓TL.a_mul, ↓TL.c_Eq_int, ↓TL.c_Eq_bool, ↓TL.c_Eq_str, ↓TL.c_Eq_tuple, ↓TL.c_Eq_list, ↓TL.c_NotEq_int, ↓TL.c_NotEq_bool, ↓TL.c_NotEq_str, ↓TL.c_NotEq_tuple, ↓TL.c_NotEq_list, ↓TL.c_Lt, ↓TL.c_LtE, ↓TL.c_Gt, ↓TL.c_GtE, ↓TL.c_LtE_b, ↓TL.c_Is_b, ↓TL.c_Is_n, ↓TL.c_IsNot_b, ↓TL.c_IsNot_n, ↓TL.c_In_tuple, ↓TL.c_In_list, ↓TL.c_NotIn_tuple, ↓TL.c_NotIn_list, ↓TL.t_non, ↓TL.t_bl, ↓TL.t_int, ↓TL.t_str, ↓TL.t_lst, ↓TL.t_tup, ↓TL.i_lst, ↓TL.i_tup, ↓TL.sl_lst, ↓TL.sl_tup, ↓TL.as_i, ↓TL.as_b, ↓TL.it_l, ↓TL.it_t, ↓TL.ls_l, ↓TL.zp_n, ↓TL.zp_f, ↓TL.zp_s, ↓TL.rv_l, ↓TL.rv_t, ↓TL.m_sw, ↓TL.m_ew, ↓TL.m_ix, ↓TL.m_ixd, ↓TL.tm_ixd, ↓TL.tm_sw, ↓TL.tm_ew, ↓TL.tm_ix, ↓TL.c_Lt_t, ↓TL.f_lenL, ↓TL.f_lenT, ↓TL.f_lenS, ↓TL.f_abs, ↓TL.f_min, ↓TL.f_max, ↓TL.f_sum, ↓TL.f_all, ↓TL.f_any, ↓TL.f_sort, ↓TL.f_ssetL, ↓TL.f_ssetT, ↓TL.f_trng, ↓TL.f_denL, ↓TL.f_denT, ↓TL.f_tupL, ↓TL.f_tupT, ↓TL.f_lstL, ↓TL.f_lstT, ↓TL.f_intI, ↓TL.f_intB, ↓TL.f_str, ↓TL.g_min, ↓TL.g_max, ↓TL.rd_fz, ↓TL.rd_own, ↓TL.rs_fz, ↓TL.rs_own, ↓TL.ou_b, ↓TL.at_l0, ↓TL.at_l1, ↓TL.at_l2, ↓TL.at_l3, ↓TL.at_l4, ↓TL.at_l5, ↓TL.at_l6, ↓TL.at_l7, ↓TL.ix_l0, ↓TL.ix_l1, ↓TL.ix_l2, ↓TL.ix_l3, ↓TL.ix_l4, ↓TL.ix_l5, ↓TL.ix_l6, ↓TL.ix_l7, ↓TL.ix_l8, ↓TL.ix_l9, ↓TL.ix_l10, ↓TL.ix_l11, ↓TL.ix_l12, TL.isStr, TL.flatD, TL.inD, TL.isiD, TL.tyD, TL.isNone, TL.eqv_int, TL.eqv_bool, TL.eqv_str, TL.sh_int, TL.sh_bool, TL.sz_le, TL.sz_lt, TL.Sl.held, List.map_cons, List.map_nil, List.cons_append, List.nil_append, List.append_nil, List.length_cons, List.length_nil, List.length_map, List.length_set, List.set_cons_zero, List.set_cons_succ, Nat.reduceLT, List.all_cons, List.all_nil, List.any_cons, List.any_nil, List.zip_cons_cons, List.zip_nil_left, List.zip_nil_right, List.foldl_cons, List.foldl_nil, List.getD_cons_zero, List.getD_cons_succ, List.mem_cons, List.not_mem_nil, forall_eq_or_imp, forall_eq, or_false, false_or, true_or, or_true, true_and, and_true, false_and, and_false, false_implies, implies_true, forall_const, ↓reduceIte, if_true, if_false, Bool.false_eq_true, Bool.true_and, Bool.and_true, Bool.false_and, Bool.and_false, Bool.or_false, Bool.false_or, Bool.or_true, Bool.true_or, Bool.not_true, Bool.not_false, Bool.and_eq_true, Bool.or_eq_true, Bool.not_eq_true', decide_eq_true_eq, decide_eq_false_iff_not, ne_eq, not_false_eq_true, not_true_eq_false, reduceCtorEq, decide_true, decide_false, Nat.reduceAdd, Nat.reduceLeDiff, Nat.reduceEqDiff, TL.all_isInt, TL.map_intOf, TL.all_isBool, TL.map_boolOf, TL.take_ints, TL.drop_ints, List.take_succ_cons, List.take_zero, List.drop_succ_cons, List.drop_zero, List.take_nil, List.drop_nil, TL.fmod_n, TL.fdiv_n, TL.cut_to, TL.cut_from, TL.cut_mid, Int.reduceEq, Int.reduceNe, Int.reduceNeg, Int.reduceAdd, Int.reduceMul, Int.reduceSub, Int.reduceLT, Int.reduceLE, Int.reduceGT, Int.reduceGE, Int.reducePow, Int.reduceToNat, Int.add_zero, Int.zero_add, String.reduceEq, String.reduceBEq]
        refine ⟨al2, hk _ _ ⟨?_, _, rfl⟩⟩
        rw [List.length_append, List.length_singleton]
        unfold cnt4 at ha ⊢
        split at ha <;> split at ha <;> (repeat' split) <;> omega
  · obtain ⟨ha, s, rfl⟩ := hp
    rw [r3_len] at ha
    walk_at "S"
    have e : (y - 1900) * 365 + (acc.length : Int) = ystart y := by
      rw [ha]
      unfold cnt4 ystart Builtin.Range.rangeSize
      simp only [show (4 : Int) > 0 by decide, if_true]
      (repeat' split) <;> omega
    rw [e]; exact q
theorem year_start_ok (n : Nat) (y : Int) (h0 : 1900 ≤ y) (h1 : y ≤ 2200) (Q : RV → List D → Prop) (q : Q (.fz (.int (ystart y))) []) : run tb.G pr (n + 2) "year_start" [.int y] Q := year_start_ok' n y (by omega) h1 Q q
theorem pdate_of2 (n : Nat) (day y : Int) (y0 : 1900 ≤ y) (y1 : y ≤ 2199) (h0 : ystart y ≤ day) (h1 : day < ystart (y + 1)) (Q : RV → List D → Prop)
    (q : ∀ m p : Int, 1 ≤ m → m ≤ 12 → 1 ≤ p → p ≤ mlen y (m - 1) → dayOf y m p = day → Q (.fz (.tuple [.int y, .int m, .int p])) []) :
    TL.wpSs tb.G (run tb.G pr (n + 2)) (ctl (ctl b_date_of)) [.fz (.int day), .fz (.int y), .un, .un] ⟨fun _ => Q (.fz .none) [], fun r _ => Q r [], fun _ => False, fun _ => False⟩ := by
  unfold b_date_of
  simp only [ctl]
  walk_at "S"
  refine year_start_ok n y y0 (by omega) _ ?_
  walk_at "S"
  have hs := leap_next y y0 y1
  have hm := sum_mdays y
  refine wh_inv (m := 12) (fun k ρ => ∃ m r : Int, ρ = [.fz (.int day), .fz (.int y), .fz (.int r), .fz (.int m)] ∧ 1 ≤ m ∧ m ≤ 12 ∧ (k : Int) = 13 - m ∧ 0 ≤ r ∧ r = day - ystart y - ((mdays y).take (m - 1).toNat).sum) ⟨1, day - ystart y, rfl, by omega, by omega, by omega, by omega, by simp⟩ (fun k ρ K hp kt kf => ?_)
  obtain ⟨m, r, rfl, m0, m1, hk, r0, hr⟩ := hp
  walk_at "S"
  rw [month_length_eq n y m m0 m1]
  have st := sum_take y (m - 1).toNat (by omega)
  rw [show (m - 1).toNat + 1 = m.toNat by omega] at st
  walk_at "S"
  by_cases h : (mdays y).getD (m - 1).toNat 0 ≤ r
  · simp only [h, decide_true]
    refine kt _ fun n1 n4 k1 k4 => ?_
    walk_at "S"
    rw [month_length_eq n y m m0 m1]
    walk_at "S"
    have m12 : m ≤ 11 := by
      rcases Int.lt_or_le m 12 with z | z
      · omega
      · have e : m = 12 := by omega
        subst e
        rw [show ((12 : Int).toNat) = (mdays y).length by rw [mdays_len]; rfl, List.take_length] at st
        omega
    exact k1 (k - 1) _ (by omega) ⟨m + 1, r - (mdays y).getD (m - 1).toNat 0, rfl, by omega, by omega, by omega, by omega, by rw [show (m + 1 - 1).toNat = m.toNat by omega, st]; omega⟩
  · simp only [h, decide_false]
    refine kf _ ?_
    walk_at "S"
    refine q m (r + 1) m0 m1 (by omega) (by unfold mlen; omega) ?_
    unfold dayOf
    omega
theorem pdate_of_ok (n : Nat) (day : Int) (h0 : 0 ≤ day) (h1 : day < 109573) (Q : RV → List D → Prop)
    (q : ∀ y m p : Int, 1900 ≤ y → y ≤ 2199 → 1 ≤ m → m ≤ 12 → 1 ≤ p → p ≤ mlen y (m - 1) → dayOf y m p = day → Q (.fz (.tuple [.int y, .int m, .int p])) []) : run tb.G pr (n + 3) "date_of" [.int day] Q := by
  rw [e_date_of]; unfold b_date_of
  simp only [↓TL.x_var, ↓TL.x_lit, ↓TL.x_glb, ↓TL.x_tup, ↓TL.x_lst, ↓TL.x_emp, ↓TL.x_rvs, ↓TL.x_met, ↓TL.x_dc1, ↓TL.x_dc2, ↓TL.x_bin, ↓TL.x_neg, ↓TL.x_nt, ↓TL.x_cmp, ↓TL.x_chn, ↓TL.x_and, ↓TL.x_or, ↓TL.x_ife, ↓TL.x_idx, ↓TL.x_slc, ↓TL.x_call, ↓TL.x_pcall, ↓TL.x_bl1, ↓TL.x_bl2, ↓TL.x_isi, ↓TL.x_pop, ↓TL.x_lc, ↓TL.x_lc2, ↓TL.x_nil, ↓TL.x_cons, ↓TL.x_no, ↓TL.x_so, ↓TL.x_tof, ↓TL.x_tand, ↓TL.x_tor, ↓TL.x_tnt, ↓TL.x_tite, ↓TL.x_ctno, ↓TL.x_ctso, ↓TL.x_iof, ↓TL.x_irng1, ↓TL.x_irng2, ↓TL.x_irng3, ↓TL.x_ienum, ↓TL.x_izip, ↓TL.x_irev, ↓TL.s_asg_, ↓TL.s_par_, ↓TL.s_sub_, ↓TL.s_aug_, ↓TL.s_swp_, ↓TL.s_augs_, ↓TL.s_subW, ↓TL.s_exp_, ↓TL.s_app_, ↓TL.s_ite_, ↓TL.s_for_, ↓TL.s_whl_, ↓TL.s_retN_, ↓TL.s_brk_, ↓TL.s_cnt_, ↓TL.s_pas_, ↓TL.ss_nil_, ↓TL.ss_cons_, ↓TL.o_dc1, ↓TL.s_ret_dc1, ↓TL.o_dc2, ↓TL.s_ret_dc2, ↓TL.o_emp, ↓TL.s_ret_emp, ↓TL.o_rvs, ↓TL.s_ret_rvs, ↓TL.o_met, ↓TL.s_ret_met, ↓TL.o_lit, ↓TL.s_ret_lit, ↓TL.o_glb, ↓TL.s_ret_glb, ↓TL.o_tup, ↓TL.s_ret_tup, ↓TL.o_lst, ↓TL.s_ret_lst, ↓TL.o_bin, ↓TL.s_ret_bin, ↓TL.o_neg, ↓TL.s_ret_neg, ↓TL.o_nt, ↓TL.s_ret_nt, ↓TL.o_cmp, ↓TL.s_ret_cmp, ↓TL.o_chn, ↓TL.s_ret_chn, ↓TL.o_and, ↓TL.s_ret_and, ↓TL.o_or, ↓TL.s_ret_or, ↓TL.o_ife, ↓TL.s_ret_ife, ↓TL.o_idx, ↓TL.s_ret_idx, ↓TL.o_slc, ↓TL.s_ret_slc, ↓TL.o_call, ↓TL.s_ret_call, ↓TL.o_pcall, ↓TL.s_ret_pcall, ↓TL.o_bl1, ↓TL.s_ret_bl1, ↓TL.o_bl2, ↓TL.s_ret_bl2, ↓TL.o_isi, ↓TL.s_ret_isi, ↓TL.o_pop, ↓TL.s_ret_pop, ↓TL.o_lc, ↓TL.s_ret_lc, ↓TL.o_lc2, ↓TL.s_ret_lc2, ↓TL.o_var_, ↓TL.s_retv_, ↓TL.l_val, ↓TL.l_slot, ↓TL.tg_fz, ↓TL.tg_own, ↓TL.tg_tup, ↓TL.tg_nil, ↓TL.tg_cons, ↓TL.wv_fz, ↓TL.wv_own, ↓TL.wv_s, ↓TL.lk_fz, ↓TL.lk_own, ↓TL.lk_bor, ↓TL.lk_s, ↓TL.cs_s, ↓TL.cs_un, ↓TL.cs_fz, ↓TL.cs_own, ↓TL.hd_own, ↓TL.hd_bor, ↓TL.hd_s, ↓TL.sh_own, ↓TL.sh_bor, ↓TL.sh_s, ↓TL.st_0, ↓TL.st_s, ↓TL.fr_nil, ↓TL.fr_cons, ↓TL.wp_nil, ↓TL.wp_cons, ↓TL.bk_nil, ↓TL.bk_cons, ↓TL.b_addI, ↓TL.b_subI, ↓TL.b_mulI, ↓TL.b_divI, ↓TL.b_modI, ↓TL.b_powI, ↓TL.b_addS, ↓TL.b_addT, ↓TL.b_addL, ↓TL.b_mulL, ↓TL.b_mulT, ↓TL.a_add, ↓TL.a_sub, ↓TL.a_mul, ↓TL.c_Eq_int, ↓TL.c_Eq_bool, ↓TL.c_Eq_str, ↓TL.c_Eq_tuple, ↓TL.c_Eq_list, ↓TL.c_NotEq_int, ↓TL.c_NotEq_bool, ↓TL.c_NotEq_str, ↓TL.c_NotEq_tuple, ↓TL.c_NotEq_list, ↓TL.c_Lt, ↓TL.c_LtE, ↓TL.c_Gt, ↓TL.c_GtE, ↓TL.c_LtE_b, ↓TL.c_Is_b, ↓TL.c_Is_n, ↓TL.c_IsNot_b, ↓TL.c_IsNot_n, ↓TL.c_In_tuple, ↓TL.c_In_list, ↓TL.c_NotIn_tuple, ↓TL.c_NotIn_list, ↓TL.t_non, ↓TL.t_bl, ↓TL.t_int, ↓TL.t_str, ↓TL.t_lst, ↓TL.t_tup, ↓TL.i_lst, ↓TL.i_tup, ↓TL.sl_lst, ↓TL.sl_tup, ↓TL.as_i, ↓TL.as_b, ↓TL.it_l, ↓TL.it_t, ↓TL.ls_l, ↓TL.zp_n, ↓TL.zp_f, ↓TL.zp_s, ↓TL.rv_l, ↓TL.rv_t, ↓TL.m_sw, ↓TL.m_ew, ↓TL.m_ix, ↓TL.m_ixd, ↓TL.tm_ixd, ↓TL.tm_sw, ↓TL.tm_ew, ↓TL.tm_ix, ↓TL.c_Lt_t, ↓TL.f_lenL, ↓TL.f_lenT, ↓TL.f_lenS, ↓TL.f_abs, ↓TL.f_min, ↓TL.f_max, ↓TL.f_sum, ↓TL.f_all, ↓TL.f_any, ↓TL.f_sort, ↓TL.f_ssetL, ↓TL.f_ssetT, ↓TL.f_trng, ↓TL.f_denL, ↓TL.f_denT, ↓TL.f_tupL, ↓TL.f_tupT, ↓TL.f_lstL, ↓TL.f_lstT, ↓TL.f_intI, ↓TL.f_intB, ↓TL.f_str, ↓TL.g_min, ↓TL.g_max, ↓TL.rd_fz, ↓TL.rd_own, ↓TL.rs_fz, ↓TL.rs_own, ↓TL.ou_b, ↓TL.at_l0, ↓TL.at_l1, ↓TL.at_l2, ↓TL.at_l3, ↓TL.at_l4, ↓TL.at_l5, ↓TL.at_l6, ↓TL.at_l7, ↓TL.ix_l0, ↓TL.ix_l1, ↓TL.ix_l2, ↓TL.ix_l3, ↓TL.ix_l4, ↓TL.ix_l5, ↓TL.ix_l6, ↓TL.ix_l7, ↓TL.ix_l8, ↓TL.ix_l9, ↓TL.ix_l10, ↓TL.ix_l11, ↓TL.ix_l12, TL.isStr, TL.flatD, TL.inD, TL.isiD, TL.tyD, TL.isNone, TL.eqv_int, TL.eqv_bool, TL.eqv_str, TL.sh_int, TL.sh_bool, TL.sz_le, TL.sz_lt, TL.Sl.held, List.map_cons, List.map_nil, List.cons_append, List.nil_append, List.append_nil, List.length_cons, List.length_nil, List.length_map, List.length_set, List.set_cons_zero, List.set_cons_succ, Nat.reduceLT, List.all_cons, List.all_nil, List.any_cons, List.any_nil, List.zip_cons_cons, List.zip_nil_left, List.zip_nil_right, List.foldl_cons, List.foldl_nil, List.getD_cons_zero, List.getD_cons_succ, List.mem_cons, List.not_mem_nil, forall_eq_or_imp, forall_eq, or_false, false_or, true_or, or_true, true_and, and_true, false_and, and_false, false_implies, implies_true, forall_const, ↓reduceIte, if_true, if_false, Bool.false_eq_true, Bool.true_and, Bool.and_true, Bool.false_and, Bool.and_false, Bool.or_false, Bool.false_or, Bool.or_true, Bool.true_or, Bool.not_true, Bool.not_false, Bool.and_eq_true, Bool.or_eq_true, Bool.not_eq_true', decide_eq_true_eq, decide_eq_false_iff_not, ne_eq, not_false_eq_true, not_true_eq_false, reduceCtorEq, decide_true, decide_false, Nat.reduceAdd, Nat.reduceLeDiff, Nat.reduceEqDiff, TL.all_isInt, TL.map_intOf, TL.all_isBool, TL.map_boolOf, TL.take_ints, TL.drop_ints, List.take_succ_cons, List.take_zero, List.drop_succ_cons, List.drop_zero, List.take_nil, List.drop_nil, TL.fmod_n, TL.fdiv_n, TL.cut_to, TL.cut_from, TL.cut_mid, Int.reduceEq, Int.reduceNe, Int.reduceNeg, Int.reduceAdd, Int.reduceMul, Int.reduceSub, Int.reduceLT, Int.reduceLE, Int.reduceGT, Int.reduceGE, Int.reducePow, Int.reduceToNat, Int.add_zero, Int.zero_add, String.reduceEq, String.reduceBEq, ↓x_glb (show tb.G "FIRST_YEAR" = some (.int 1900) from rfl), ↓x_glb (show tb.G "LAST_YEAR" = some (.int 2199) from rfl)]
  refine ⟨dok (by omega) (by omega) (by omega), ?_⟩
  have yl := ystart_le (1900 + day / 366) (by omega)
  refine wh_inv (m := (2199 - (1900 + day / 366)).toNat) (fun k ρ => ∃ y : Int, ρ = [.fz (.int day), .fz (.int y), .un, .un] ∧ 1900 ≤ y ∧ y ≤ 2199 ∧ ystart y ≤ day ∧ k = (2199 - y).toNat) ⟨_, rfl, by omega, by omega, by omega, rfl⟩ (fun k ρ K hp kt kf => ?_)
  obtain ⟨y, rfl, y0, y1, y2, rfl⟩ := hp
  simp only [↓TL.x_var, ↓TL.x_lit, ↓TL.x_glb, ↓TL.x_tup, ↓TL.x_lst, ↓TL.x_emp, ↓TL.x_rvs, ↓TL.x_met, ↓TL.x_dc1, ↓TL.x_dc2, ↓TL.x_bin, ↓TL.x_neg, ↓TL.x_nt, ↓TL.x_cmp, ↓TL.x_chn, ↓TL.x_and, ↓TL.x_or, ↓TL.x_ife, ↓TL.x_idx, ↓TL.x_slc, ↓TL.x_call, ↓TL.x_pcall, ↓TL.x_bl1, ↓TL.x_bl2, ↓TL.x_isi, ↓TL.x_pop, ↓TL.x_lc, ↓TL.x_lc2, ↓TL.x_nil, ↓TL.x_cons, ↓TL.x_no, ↓TL.x_so, ↓TL.x_tof, ↓TL.x_tand, ↓TL.x_tor, ↓TL.x_tnt, ↓TL.x_tite, ↓TL.x_ctno, ↓TL.x_ctso, ↓TL.x_iof, ↓TL.x_irng1, ↓TL.x_irng2, ↓TL.x_irng3, ↓TL.x_ienum, ↓TL.x_izip, ↓TL.x_irev, ↓TL.s_asg_, ↓TL.s_par_, ↓TL.s_sub_, ↓TL.s_aug_, ↓TL.s_swp_, ↓TL.s_augs_, ↓TL.s_subW, ↓TL.s_exp_, ↓TL.s_app_, ↓TL.s_ite_, ↓TL.s_for_, ↓TL.s_whl_, ↓TL.s_retN_, ↓TL.s_brk_, ↓TL.s_cnt_, ↓TL.s_pas_, ↓TL.ss_nil_, ↓TL.ss_cons_, ↓TL.o_dc1, ↓TL.s_ret_dc1, ↓TL.o_dc2, ↓TL.s_ret_dc2, ↓TL.o_emp, ↓TL.s_ret_emp, ↓TL.o_rvs, ↓TL.s_ret_rvs, ↓TL.o_met, ↓TL.s_ret_met, ↓TL.o_lit, ↓TL.s_ret_lit, ↓TL.o_glb, ↓TL.s_ret_glb, ↓TL.o_tup, ↓TL.s_ret_tup, ↓TL.o_lst, ↓TL.s_ret_lst, ↓TL.o_bin, ↓TL.s_ret_bin, ↓TL.o_neg, ↓TL.s_ret_neg, ↓TL.o_nt, ↓TL.s_ret_nt, ↓TL.o_cmp, ↓TL.s_ret_cmp, ↓TL.o_chn, ↓TL.s_ret_chn, ↓TL.o_and, ↓TL.s_ret_and, ↓TL.o_or, ↓TL.s_ret_or, ↓TL.o_ife, ↓TL.s_ret_ife, ↓TL.o_idx, ↓TL.s_ret_idx, ↓TL.o_slc, ↓TL.s_ret_slc, ↓TL.o_call, ↓TL.s_ret_call, ↓TL.o_pcall, ↓TL.s_ret_pcall, ↓TL.o_bl1, ↓TL.s_ret_bl1, ↓TL.o_bl2, ↓TL.s_ret_bl2, ↓TL.o_isi, ↓TL.s_ret_isi, ↓TL.o_pop, ↓TL.s_ret_pop, ↓TL.o_lc, ↓TL.s_ret_lc, ↓TL.o_lc2, ↓TL.s_ret_lc2, ↓TL.o_var_, ↓TL.s_retv_, ↓TL.l_val, ↓TL.l_slot, ↓TL.tg_fz, ↓TL.tg_own, ↓TL.tg_tup, ↓TL.tg_nil, ↓TL.tg_cons, ↓TL.wv_fz, ↓TL.wv_own, ↓TL.wv_s, ↓TL.lk_fz, ↓TL.lk_own, ↓TL.lk_bor, ↓TL.lk_s, ↓TL.cs_s, ↓TL.cs_un, ↓TL.cs_fz, ↓TL.cs_own, ↓TL.hd_own, ↓TL.hd_bor, ↓TL.hd_s, ↓TL.sh_own, ↓TL.sh_bor, ↓TL.sh_s, ↓TL.st_0, ↓TL.st_s, ↓TL.fr_nil, ↓TL.fr_cons, ↓TL.wp_nil, ↓TL.wp_cons, ↓TL.bk_nil, ↓TL.bk_cons, ↓TL.b_addI, ↓TL.b_subI, ↓TL.b_mulI, ↓TL.b_divI, ↓TL.b_modI, ↓TL.b_powI, ↓TL.b_addS, ↓TL.b_addT, ↓TL.b_addL, ↓TL.b_mulL, ↓TL.b_mulT, ↓TL.a_add, ↓TL.a_sub, ↓TL.a_mul, ↓TL.c_Eq_int, ↓TL.c_Eq_bool, ↓TL.c_Eq_str, ↓TL.c_Eq_tuple, ↓TL.c_Eq_list, ↓TL.c_NotEq_int, ↓TL.c_NotEq_bool, ↓TL.c_NotEq_str, ↓TL.c_NotEq_tuple, ↓TL.c_NotEq_list, ↓TL.c_Lt, ↓TL.c_LtE, ↓TL.c_Gt, ↓TL.c_GtE, ↓TL.c_LtE_b, ↓TL.c_Is_b, ↓TL.c_Is_n, ↓TL.c_IsNot_b, ↓TL.c_IsNot_n, ↓TL.c_In_tuple, ↓TL.c_In_list, ↓TL.c_NotIn_tuple, ↓TL.c_NotIn_list, ↓TL.t_non, ↓TL.t_bl, ↓TL.t_int, ↓TL.t_str, ↓TL.t_lst, ↓TL.t_tup, ↓TL.i_lst, ↓TL.i_tup, ↓TL.sl_lst, ↓TL.sl_tup, ↓TL.as_i, ↓TL.as_b, ↓TL.it_l, ↓TL.it_t, ↓TL.ls_l, ↓TL.zp_n, ↓TL.zp_f, ↓TL.zp_s, ↓TL.rv_l, ↓TL.rv_t, ↓TL.m_sw, ↓TL.m_ew, ↓TL.m_ix, ↓TL.m_ixd, ↓TL.tm_ixd, ↓TL.tm_sw, ↓TL.tm_ew, ↓TL.tm_ix, ↓TL.c_Lt_t, ↓TL.f_lenL, ↓TL.f_lenT, ↓TL.f_lenS, ↓TL.f_abs, ↓TL.f_min, ↓TL.f_max, ↓TL.f_sum, ↓TL.f_all, ↓TL.f_any, ↓TL.f_sort, ↓TL.f_ssetL, ↓TL.f_ssetT, ↓TL.f_trng, ↓TL.f_denL, ↓TL.f_denT, ↓TL.f_tupL, ↓TL.f_tupT, ↓TL.f_lstL, ↓TL.f_lstT, ↓TL.f_intI, ↓TL.f_intB, ↓TL.f_str, ↓TL.g_min, ↓TL.g_max, ↓TL.rd_fz, ↓TL.rd_own, ↓TL.rs_fz, ↓TL.rs_own, ↓TL.ou_b, ↓TL.at_l0, ↓TL.at_l1, ↓TL.at_l2, ↓TL.at_l3, ↓TL.at_l4, ↓TL.at_l5, ↓TL.at_l6, ↓TL.at_l7, ↓TL.ix_l0, ↓TL.ix_l1, ↓TL.ix_l2, ↓TL.ix_l3, ↓TL.ix_l4, ↓TL.ix_l5, ↓TL.ix_l6, ↓TL.ix_l7, ↓TL.ix_l8, ↓TL.ix_l9, ↓TL.ix_l10, ↓TL.ix_l11, ↓TL.ix_l12, TL.isStr, TL.flatD, TL.inD, TL.isiD, TL.tyD, TL.isNone, TL.eqv_int, TL.eqv_bool, TL.eqv_str, TL.sh_int, TL.sh_bool, TL.sz_le, TL.sz_lt, TL.Sl.held, List.map_cons, List.map_nil, List.cons_append, List.nil_append, List.append_nil, List.length_cons, List.length_nil, List.length_map, List.length_set, List.set_cons_zero, List.set_cons_succ, Nat.reduceLT, List.all_cons, List.all_nil, List.any_cons, List.any_nil, List.zip_cons_cons, List.zip_nil_left, List.zip_nil_right, List.foldl_cons, List.foldl_nil, List.getD_cons_zero, List.getD_cons_succ, List.mem_cons, List.not_mem_nil, forall_eq_or_imp, forall_eq, or_false, false_or, true_or, or_true, true_and, and_true, false_and, and_false, false_implies, implies_true, forall_const, ↓reduceIte, if_true, if_false, Bool.false_eq_true, Bool.true_and, Bool.and_true, Bool.false_and, Bool.and_false, Bool.or_false, Bool.false_or, Bool.or_true, Bool.true_or, Bool.not_true, Bool.not_false, Bool.and_eq_true, Bool.or_eq_true, Bool.not_eq_true', decide_eq_true_eq, decide_eq_false_iff_not, ne_eq, not_false_eq_true, not_true_eq_false, reduceCtorEq, decide_true, decide_false, Nat.reduceAdd, Nat.reduceLeDiff, Nat.reduceEqDiff, TL.all_isInt, TL.map_intOf, TL.all_isBool, TL.map_boolOf, TL.take_ints, TL.drop_ints, List.take_succ_cons, List.take_zero, List.drop_succ_cons, List.drop_zero, List.take_nil, List.drop_nil, TL.fmod_n, TL.fdiv_n, TL.cut_to, TL.cut_from, TL.cut_mid, Int.reduceEq, Int.reduceNe, Int.reduceNeg, Int.reduceAdd, Int.reduceMul, Int.reduceSub, Int.reduceLT, Int.reduceLE, Int.reduceGT, Int.reduceGE, Int.reducePow, Int.reduceToNat, Int.add_zero, Int.zero_add, String.reduceEq, String.reduceBEq, ↓x_glb (show tb.G "LAST_YEAR" = some (.int 2199) from rfl)]
  split
  · refine year_start_ok n (y + 1) (by omega) (by omega) _ ?_
    walk_at "S"
    by_cases h : ystart (y + 1) ≤ day
    · simp only [h, decide_true]
      refine kt _ fun n1 n4 k1 k4 => ?_
      walk_at "S"
      exact k1 (2199 - (y + 1)).toNat _ (by omega) ⟨y + 1, rfl, by omega, by omega, h, rfl⟩
    · simp only [h, decide_false]
      exact kf _ (pdate_of2 n day y y0 y1 y2 (by omega) Q fun m p a b c d e => q y m p y0 y1 a b c d e)
  · have e : y = 2199 := by omega
    subst e
    exact kf _ (pdate_of2 n day 2199 y0 y1 y2 (by unfold ystart; simp; omega) Q fun m p a b c d e => q _ m p y0 y1 a b c d e)
/-- the date of a day: one alone -/
theorem dayOf_lt' (y m p y' m' p' : Int) (y0 : 1899 ≤ y) (y1 : y' ≤ 2200) (m0 : 1 ≤ m) (m1 : m ≤ 12) (p0 : 1 ≤ p) (p1 : p ≤ mlen y (m - 1)) (n0 : 1 ≤ m') (n1 : m' ≤ 12) (q0 : 1 ≤ p') (q1 : p' ≤ mlen y' (m' - 1))
    (h : y < y' ∨ (y = y' ∧ (m < m' ∨ (m = m' ∧ p < p')))) : dayOf y m p < dayOf y' m' p' := by
  unfold mlen at p1 q1
  have up : ∀ (z k l : Int), 0 ≤ k → k ≤ l → l ≤ 12 → ((mdays z).take k.toNat).sum ≤ ((mdays z).take l.toNat).sum := by
    intro z k l h1 h2 h3
    have : ∀ b : Bool, ∀ k, k ≤ 12 → ∀ l, l ≤ 12 → k ≤ l → (([31, 28 + if b = true then 1 else 0, 31, 30, 31, 30, 31, 31, 30, 31, 30, (31 : Int)]).take k).sum ≤ (([31, 28 + if b = true then 1 else 0, 31, 30, 31, 30, 31, 31, 30, 31, 30, (31 : Int)]).take l).sum := by
      intro b; cases b <;> decide +kernel
    exact this (leap z) k.toNat (by omega) l.toNat (by omega) (by omega)
  have st := sum_take y (m - 1).toNat (by omega)
  rw [show (m - 1).toNat + 1 = m.toNat by omega] at st
  unfold dayOf
  rcases h with h | ⟨rfl, h | ⟨rfl, h⟩⟩
  · have a := up y m 12 (by omega) m1 (by omega)
    rw [show ((12 : Int).toNat) = (mdays y).length by rw [mdays_len]; rfl, List.take_length, sum_mdays] at a
    have b := leap_next' y y0 (by omega)
    have c : ystart (y + 1) ≤ ystart y' := by unfold ystart; (repeat' split) <;> omega
    have d := (sum_take_le y' (m' - 1).toNat (by omega)).1
    omega
  · have a := up y m (m' - 1) (by omega) (by omega) (by omega)
    omega
  · omega
theorem dayOf_lt (y m p y' m' p' : Int) (y0 : 1900 ≤ y) (y1 : y' ≤ 2199) (m0 : 1 ≤ m) (m1 : m ≤ 12) (p0 : 1 ≤ p) (p1 : p ≤ mlen y (m - 1)) (n0 : 1 ≤ m') (n1 : m' ≤ 12) (q0 : 1 ≤ p') (q1 : p' ≤ mlen y' (m' - 1))
    (h : y < y' ∨ (y = y' ∧ (m < m' ∨ (m = m' ∧ p < p')))) : dayOf y m p < dayOf y' m' p' := dayOf_lt' y m p y' m' p' (by omega) (by omega) m0 m1 p0 p1 n0 n1 q0 q1 h
theorem dayOf_inj (y m p y' m' p' : Int) (y0 : 1900 ≤ y) (y1 : y ≤ 2199) (z0 : 1900 ≤ y') (z1 : y' ≤ 2199) (m0 : 1 ≤ m) (m1 : m ≤ 12) (p0 : 1 ≤ p) (p1 : p ≤ mlen y (m - 1)) (n0 : 1 ≤ m') (n1 : m' ≤ 12) (q0 : 1 ≤ p') (q1 : p' ≤ mlen y' (m' - 1))
    (h : dayOf y m p = dayOf y' m' p') : y = y' ∧ m = m' ∧ p = p' := by
  have a := dayOf_lt y m p y' m' p' y0 z1 m0 m1 p0 p1 n0 n1 q0 q1
  have b := dayOf_lt y' m' p' y m p z0 y1 n0 n1 q0 q1 m0 m1 p0 p1
  rcases Int.lt_trichotomy y y' with g | g | g
  · have := a (.inl g); omega
  · subst g
    rcases Int.lt_trichotomy m m' with g | g | g
    · have := a (.inr ⟨rfl, .inl g⟩); omega
    · subst g
      rcases Int.lt_trichotomy p p' with g | g | g
      · have := a (.inr ⟨rfl, .inr ⟨rfl, g⟩⟩); omega
      · exact ⟨rfl, rfl, g⟩
      · have := b (.inr ⟨rfl, .inr ⟨rfl, g⟩⟩); omega
    · have := b (.inr ⟨rfl, .inl g⟩); omega
  · have := b (.inl g); omega
def dt (y m p : Int) : D := .tuple [.int y, .int m, .int p]
structure VD (y m p : Int) : Prop where
  y0 : 1900 ≤ y
  y1 : y ≤ 2199
  m0 : 1 ≤ m
  m1 : m ≤ 12
  p0 : 1 ≤ p
  p1 : p ≤ mlen y (m - 1)
/-- months later -/
theorem VD.later {y m p : Int} (v : VD y m p) {k : Int} (h0 : 1900 * 12 ≤ later y m k) (h1 : later y m k ≤ 2199 * 12 + 11) (l : Bool) :
    VD (Pr.later y m k / 12) (Pr.later y m k % 12 + 1) (if l = true then mlen (Pr.later y m k / 12) (Pr.later y m k % 12) else if mlen (Pr.later y m k / 12) (Pr.later y m k % 12) < p then mlen (Pr.later y m k / 12) (Pr.later y m k % 12) else p) := by
  have a := mdays_pos (Pr.later y m k / 12) (Pr.later y m k % 12).toNat (by omega)
  have b := v.p0
  refine ⟨by omega, by omega, by omega, by omega, ?_, ?_⟩
  · unfold mlen; split <;> (try split) <;> omega
  · rw [Int.add_sub_cancel]; split <;> (try split) <;> omega
theorem later_comp (y m a b : Int) : later (later y m a / 12) (later y m a % 12 + 1) b = later y m (a + b) := by unfold later; omega
theorem later_0 (y m : Int) (m0 : 1 ≤ m) (m1 : m ≤ 12) : later y m 0 / 12 = y ∧ later y m 0 % 12 + 1 = m := by unfold later; omega
theorem next_month (y m : Int) (y0 : 1900 ≤ y) (y1 : y ≤ 2199) (m0 : 1 ≤ m) (m1 : m ≤ 12) : dayOf (later y m 1 / 12) (later y m 1 % 12 + 1) 1 = dayOf y m (mlen y (m - 1)) + 1 := by
  have st := sum_take y (m - 1).toNat (by omega)
  rw [show (m - 1).toNat + 1 = m.toNat by omega] at st
  rcases Int.lt_or_le m 12 with h | h
  · have e1 : later y m 1 / 12 = y := by unfold later; omega
    have e2 : later y m 1 % 12 + 1 = m + 1 := by unfold later; omega
    rw [e1, e2]
    unfold dayOf mlen
    rw [show (m + 1 - 1).toNat = m.toNat by omega]
    omega
  · have e : m = 12 := by omega
    subst e
    have e1 : later y 12 1 / 12 = y + 1 := by unfold later; omega
    have e2 : later y 12 1 % 12 + 1 = 1 := by unfold later; omega
    rw [e1, e2, dayOf_1]
    unfold dayOf mlen
    have hs := leap_next y y0 y1
    have hm := sum_mdays y
    rw [show ((12 : Int).toNat) = (mdays y).length by rw [mdays_len]; rfl, List.take_length] at st
    omega
/-- the day of the month so many months later -/
def dpart (y m p k : Int) (l : Bool) : Int := if l = true then mlen (later y m k / 12) (later y m k % 12) else if mlen (later y m k / 12) (later y m k % 12) < p then mlen (later y m k / 12) (later y m k % 12) else p
theorem VD.later' {y m p : Int} (v : VD y m p) {k : Int} (h0 : 1900 * 12 ≤ Pr.later y m k) (h1 : Pr.later y m k ≤ 2199 * 12 + 11) (l : Bool) : VD (Pr.later y m k / 12) (Pr.later y m k % 12 + 1) (dpart y m p k l) := v.later h0 h1 l
theorem mlen_28 (y k : Int) (h0 : 0 ≤ k) (h1 : k < 12) : 28 ≤ mlen y k := mdays_pos y k.toNat (by omega)
end Pr
end
section
namespace Pr
open PySem TL
/-- the date of a day, as a function -/
noncomputable def dYMD (day : Int) : Int × Int × Int := Classical.epsilon fun t : Int × Int × Int => VD t.1 t.2.1 t.2.2 ∧ dayOf t.1 t.2.1 t.2.2 = day
noncomputable def dY (day : Int) : Int := (dYMD day).1
noncomputable def dM (day : Int) : Int := (dYMD day).2.1
noncomputable def dD (day : Int) : Int := (dYMD day).2.2
theorem date_fn {day y m p : Int} (v : VD y m p) (e : dayOf y m p = day) : dY day = y ∧ dM day = m ∧ dD day = p := by
  have h : VD (dYMD day).1 (dYMD day).2.1 (dYMD day).2.2 ∧ dayOf (dYMD day).1 (dYMD day).2.1 (dYMD day).2.2 = day := Classical.epsilon_spec (p := fun t : Int × Int × Int => VD t.1 t.2.1 t.2.2 ∧ dayOf t.1 t.2.1 t.2.2 = day) ⟨(y, m, p), v, e⟩
  exact dayOf_inj _ _ _ _ _ _ h.1.y0 h.1.y1 v.y0 v.y1 h.1.m0 h.1.m1 h.1.p0 h.1.p1 v.m0 v.m1 v.p0 v.p1 (h.2.trans e.symm)
def InD (day : Int) : Prop := 0 ≤ day ∧ day < 109573
theorem date_ok (n : Nat) (day : Int) (h : InD day) (Q : RV → List D → Prop) (q : VD (dY day) (dM day) (dD day) → dayOf (dY day) (dM day) (dD day) = day → Q (.fz (dt (dY day) (dM day) (dD day))) []) : run tb.G pr (n + 3) "date_of" [.int day] Q :=
  pdate_of_ok n day h.1 h.2 Q fun y m p a1 a2 a3 a4 a5 a6 a7 => by
    have v : VD y m p := ⟨a1, a2, a3, a4, a5, a6⟩
    obtain ⟨e1, e2, e3⟩ := date_fn v a7
    rw [e1, e2, e3] at q
    exact q v a7
theorem law_date_ok (n : Nat) (day : Int) (h : InD day) (Q : RV → List D → Prop) (q : VD (dY day) (dM day) (dD day) → dayOf (dY day) (dM day) (dD day) = day → Q (.fz (dt (dY day) (dM day) (dD day))) []) : run tb.G pr (n + 3) "_law_date_of" [.int day] Q :=
  date_of_ok n day h.1 h.2 Q fun y m p a1 a2 a3 a4 a5 a6 a7 => by
    have v : VD y m p := ⟨a1, a2, a3, a4, a5, a6⟩
    obtain ⟨e1, e2, e3⟩ := date_fn v a7
    rw [e1, e2, e3] at q
    exact q v a7
theorem year_ex (d : Int) (h0 : 0 ≤ d) : ∀ k : Nat, k ≤ 300 → d < ystart (1900 + k) → ∃ y : Int, 1900 ≤ y ∧ y ≤ 2199 ∧ ystart y ≤ d ∧ d < ystart (y + 1)
  | 0, _, h => by
    have : ystart (1900 + ((0 : Nat) : Int)) = 0 := by decide
    omega
  | k + 1, hk, h => by
    rcases Int.lt_or_le d (ystart (1900 + k)) with g | g
    · exact year_ex d h0 k (by omega) g
    · exact ⟨1900 + k, by omega, by omega, g, by rw [show (1900 + (k : Int) + 1) = 1900 + ((k + 1 : Nat) : Int) by omega]; exact h⟩
theorem month_ex (y r : Int) (h0 : 0 ≤ r) : ∀ k : Nat, k ≤ 12 → r < ((mdays y).take k).sum → ∃ m : Int, 1 ≤ m ∧ m ≤ 12 ∧ ((mdays y).take (m - 1).toNat).sum ≤ r ∧ r < ((mdays y).take (m - 1).toNat).sum + mlen y (m - 1)
  | 0, _, h => by simp at h; omega
  | k + 1, hk, h => by
    rcases Int.lt_or_le r ((mdays y).take k).sum with g | g
    · exact month_ex y r h0 k (by omega) g
    · rw [sum_take y k (by omega)] at h
      refine ⟨k + 1, by omega, by omega, ?_, ?_⟩
      · rw [show ((k : Int) + 1 - 1).toNat = k by omega]; exact g
      · unfold mlen
        rw [show ((k : Int) + 1 - 1).toNat = k by omega]; exact h
theorem date_ex (d : Int) (h : InD d) : VD (dY d) (dM d) (dD d) ∧ dayOf (dY d) (dM d) (dD d) = d := by
  obtain ⟨y, y0, y1, a, b⟩ := year_ex d h.1 300 (by omega) (by rw [show ystart (1900 + ((300 : Nat) : Int)) = 109573 by decide]; exact h.2)
  have hs := leap_next y y0 y1
  have hm := sum_mdays y
  obtain ⟨m, m0, m1, c, e⟩ := month_ex y (d - ystart y) (by omega) 12 (by omega) (by
    have : (mdays y).take 12 = mdays y := by rw [← mdays_len y, List.take_length]
    rw [this]; omega)
  have v : VD y m (d - ystart y - ((mdays y).take (m - 1).toNat).sum + 1) := ⟨y0, y1, m0, m1, by omega, by omega⟩
  have q : dayOf y m (d - ystart y - ((mdays y).take (m - 1).toNat).sum + 1) = d := by unfold dayOf; omega
  obtain ⟨e1, e2, e3⟩ := date_fn v q
  rw [e1, e2, e3]
  exact ⟨v, q⟩
theorem mlen_31 (y k : Int) (h0 : 0 ≤ k) (h1 : k < 12) : mlen y k ≤ 31 := by
  unfold mlen
  rw [mdays_get y k.toNat (by omega)]
  have : ∀ k, k < 12 → months.getD k 0 ≤ 31 := by decide
  split
  · omega
  · exact this _ (by omega)
theorem VD.p31 {y m p : Int} (v : VD y m p) : p ≤ 31 := Int.le_trans v.p1 (mlen_31 y (m - 1) (by have := v.m0; omega) (by have := v.m1; omega))
end Pr
end
section
namespace Pr
open PySem TL
/-- days by months of thirty; counts -/
noncomputable def bym (e : Bool) (f l : Int) : Int :=
  360 * (dY l - dY f) + 30 * (dM l - dM f) + (if e = true ∨ min (dD f) 30 = 30 then min (dD l) 30 else dD l) - min (dD f) 30
noncomputable def cnt (w : Str) (f l : Int) : Rat :=
  if w = "actual/360" then Rat.divInt (l - f) 360 else if w = "actual/365" then Rat.divInt (l - f) 365 else Rat.divInt (bym (decide (w = "30E/360")) f l) 360
theorem bym_sz {e : Bool} {f l : Int} (hf : VD (dY f) (dM f) (dD f)) (hl : VD (dY l) (dM l) (dD l)) : Sz 18 (bym e f l) := by
  obtain ⟨a1, a2, a3, a4, a5, a6⟩ := hf
  have p31 := hl.p31
  obtain ⟨c1, c2, c3, c4, c5, c6⟩ := hl
  unfold bym Sz
  split <;> omega
theorem min_if (a b : Int) : (if a < b then a else b) = min b a := by
  rw [Int.min_def]; split <;> split <;> omega
theorem by_months_ok (n : Nat) (w : Str) (f l : Int) (hf : InD f) (hl : InD l) (Q : RV → List D → Prop) (q : VD (dY f) (dM f) (dD f) → VD (dY l) (dM l) (dD l) → Q (.fz (.int (bym (decide (w = "30E/360")) f l))) []) : run tb.G pr (n + 4) "by_months" [.str w, .int f, .int l] Q := by
  rw [e_by_months]; unfold b_by_months
  walk_at "S"
  refine date_ok n f hf _ fun v e => ?_
  simp only [dt, ↓TL.x_var, ↓TL.x_lit, ↓TL.x_glb, ↓TL.x_tup, ↓TL.x_lst, ↓TL.x_emp, ↓TL.x_rvs, ↓TL.x_met, ↓TL.x_dc1, ↓TL.x_dc2, ↓TL.x_bin, ↓TL.x_neg, ↓TL.x_nt, ↓TL.x_cmp, ↓TL.x_chn, ↓TL.x_and, ↓TL.x_or, ↓TL.x_ife, ↓TL.x_idx, ↓TL.x_slc, ↓TL.x_call, ↓TL.x_pcall, ↓TL.x_bl1, ↓TL.x_bl2, ↓TL.x_isi, ↓TL.x_pop, ↓TL.x_lc, ↓TL.x_lc2, ↓TL.x_nil, ↓TL.x_cons, ↓TL.x_no, ↓TL.x_so, ↓TL.x_tof, ↓TL.x_tand, ↓TL.x_tor, ↓TL.x_tnt, ↓TL.x_tite, ↓TL.x_ctno, ↓TL.x_ctso, ↓TL.x_iof, ↓TL.x_irng1, ↓TL.x_irng2, ↓TL.x_irng3, ↓TL.x_ienum, ↓TL.x_izip, ↓TL.x_irev, ↓TL.s_asg_, ↓TL.s_par_, ↓TL.s_sub_, ↓TL.s_aug_, ↓TL.s_swp_, ↓TL.s_augs_, ↓TL.s_subW, ↓TL.s_exp_, ↓TL.s_app_, ↓TL.s_ite_, ↓TL.s_for_, ↓TL.s_whl_, ↓TL.s_retN_, ↓TL.s_brk_, ↓TL.s_cnt_, ↓TL.s_pas_, ↓TL.ss_nil_, ↓TL.ss_cons_, ↓TL.o_dc1, ↓TL.s_ret_dc1, ↓TL.o_dc2, ↓TL.s_ret_dc2, ↓TL.o_emp, ↓TL.s_ret_emp, ↓TL.o_rvs, ↓TL.s_ret_rvs, ↓TL.o_met, ↓TL.s_ret_met, ↓TL.o_lit, ↓TL.s_ret_lit, ↓TL.o_glb, ↓TL.s_ret_glb, ↓TL.o_tup, ↓TL.s_ret_tup, ↓TL.o_lst, ↓TL.s_ret_lst, ↓TL.o_bin, ↓TL.s_ret_bin, ↓TL.o_neg, ↓TL.s_ret_neg, ↓TL.o_nt, ↓TL.s_ret_nt, ↓TL.o_cmp, ↓TL.s_ret_cmp, ↓TL.o_chn, ↓TL.s_ret_chn, ↓TL.o_and, ↓TL.s_ret_and, ↓TL.o_or, ↓TL.s_ret_or, ↓TL.o_ife, ↓TL.s_ret_ife, ↓TL.o_idx, ↓TL.s_ret_idx, ↓TL.o_slc, ↓TL.s_ret_slc, ↓TL.o_call, ↓TL.s_ret_call, ↓TL.o_pcall, ↓TL.s_ret_pcall, ↓TL.o_bl1, ↓TL.s_ret_bl1, ↓TL.o_bl2, ↓TL.s_ret_bl2, ↓TL.o_isi, ↓TL.s_ret_isi, ↓TL.o_pop, ↓TL.s_ret_pop, ↓TL.o_lc, ↓TL.s_ret_lc, ↓TL.o_lc2, ↓TL.s_ret_lc2, ↓TL.o_var_, ↓TL.s_retv_, ↓TL.l_val, ↓TL.l_slot, ↓TL.tg_fz, ↓TL.tg_own, ↓TL.tg_tup, ↓TL.tg_nil, ↓TL.tg_cons, ↓TL.wv_fz, ↓TL.wv_own, ↓TL.wv_s, ↓TL.lk_fz, ↓TL.lk_own, ↓TL.lk_bor, ↓TL.lk_s, ↓TL.cs_s, ↓TL.cs_un, ↓TL.cs_fz, ↓TL.cs_own, ↓TL.hd_own, ↓TL.hd_bor, ↓TL.hd_s, ↓TL.sh_own, ↓TL.sh_bor, ↓TL.sh_s, ↓TL.st_0, ↓TL.st_s, ↓TL.fr_nil, ↓TL.fr_cons, ↓TL.wp_nil, ↓TL.wp_cons, ↓TL.bk_nil, ↓TL.bk_cons, ↓TL.b_addI, ↓TL.b_subI, ↓TL.b_mulI, ↓TL.b_divI, ↓TL.b_modI, ↓TL.b_powI, ↓TL.b_addS, ↓TL.b_addT, ↓TL.b_addL, ↓TL.b_mulL, ↓TL.b_mulT, ↓TL.a_add, ↓TL.a_sub, ↓TL.a_mul, ↓TL.c_Eq_int, ↓TL.c_Eq_bool, ↓TL.c_Eq_str, ↓TL.c_Eq_tuple, ↓TL.c_Eq_list, ↓TL.c_NotEq_int, ↓TL.c_NotEq_bool, ↓TL.c_NotEq_str, ↓TL.c_NotEq_tuple, ↓TL.c_NotEq_list, ↓TL.c_Lt, ↓TL.c_LtE, ↓TL.c_Gt, ↓TL.c_GtE, ↓TL.c_LtE_b, ↓TL.c_Is_b, ↓TL.c_Is_n, ↓TL.c_IsNot_b, ↓TL.c_IsNot_n, ↓TL.c_In_tuple, ↓TL.c_In_list, ↓TL.c_NotIn_tuple, ↓TL.c_NotIn_list, ↓TL.t_non, ↓TL.t_bl, ↓TL.t_int, ↓TL.t_str, ↓TL.t_lst, ↓TL.t_tup, ↓TL.i_lst, ↓TL.i_tup, ↓TL.sl_lst, ↓TL.sl_tup, ↓TL.as_i, ↓TL.as_b, ↓TL.it_l, ↓TL.it_t, ↓TL.ls_l, ↓TL.zp_n, ↓TL.zp_f, ↓TL.zp_s, ↓TL.rv_l, ↓TL.rv_t, ↓TL.m_sw, ↓TL.m_ew, ↓TL.m_ix, ↓TL.m_ixd, ↓TL.tm_ixd, ↓TL.tm_sw, ↓TL.tm_ew, ↓TL.tm_ix, ↓TL.c_Lt_t, ↓TL.f_lenL, ↓TL.f_lenT, ↓TL.f_lenS, ↓TL.f_abs, ↓TL.f_min, ↓TL.f_max, ↓TL.f_sum, ↓TL.f_all, ↓TL.f_any, ↓TL.f_sort, ↓TL.f_ssetL, ↓TL.f_ssetT, ↓TL.f_trng, ↓TL.f_denL, ↓TL.f_denT, ↓TL.f_tupL, ↓TL.f_tupT, ↓TL.f_lstL, ↓TL.f_lstT, ↓TL.f_intI, ↓TL.f_intB, ↓TL.f_str, ↓TL.g_min, ↓TL.g_max, ↓TL.rd_fz, ↓TL.rd_own, ↓TL.rs_fz, ↓TL.rs_own, ↓TL.ou_b, ↓TL.at_l0, ↓TL.at_l1, ↓TL.at_l2, ↓TL.at_l3, ↓TL.at_l4, ↓TL.at_l5, ↓TL.at_l6, ↓TL.at_l7, ↓TL.ix_l0, ↓TL.ix_l1, ↓TL.ix_l2, ↓TL.ix_l3, ↓TL.ix_l4, ↓TL.ix_l5, ↓TL.ix_l6, ↓TL.ix_l7, ↓TL.ix_l8, ↓TL.ix_l9, ↓TL.ix_l10, ↓TL.ix_l11, ↓TL.ix_l12, TL.isStr, TL.flatD, TL.inD, TL.isiD, TL.tyD, TL.isNone, TL.eqv_int, TL.eqv_bool, TL.eqv_str, TL.sh_int, TL.sh_bool, TL.sz_le, TL.sz_lt, TL.Sl.held, List.map_cons, List.map_nil, List.cons_append, List.nil_append, List.append_nil, List.length_cons, List.length_nil, List.length_map, List.length_set, List.set_cons_zero, List.set_cons_succ, Nat.reduceLT, List.all_cons, List.all_nil, List.any_cons, List.any_nil, List.zip_cons_cons, List.zip_nil_left, List.zip_nil_right, List.foldl_cons, List.foldl_nil, List.getD_cons_zero, List.getD_cons_succ, List.mem_cons, List.not_mem_nil, forall_eq_or_imp, forall_eq, or_false, false_or, true_or, or_true, true_and, and_true, false_and, and_false, false_implies, implies_true, forall_const, ↓reduceIte, if_true, if_false, Bool.false_eq_true, Bool.true_and, Bool.and_true, Bool.false_and, Bool.and_false, Bool.or_false, Bool.false_or, Bool.or_true, Bool.true_or, Bool.not_true, Bool.not_false, Bool.and_eq_true, Bool.or_eq_true, Bool.not_eq_true', decide_eq_true_eq, decide_eq_false_iff_not, ne_eq, not_false_eq_true, not_true_eq_false, reduceCtorEq, decide_true, decide_false, Nat.reduceAdd, Nat.reduceLeDiff, Nat.reduceEqDiff, TL.all_isInt, TL.map_intOf, TL.all_isBool, TL.map_boolOf, TL.take_ints, TL.drop_ints, List.take_succ_cons, List.take_zero, List.drop_succ_cons, List.drop_zero, List.take_nil, List.drop_nil, TL.fmod_n, TL.fdiv_n, TL.cut_to, TL.cut_from, TL.cut_mid, Int.reduceEq, Int.reduceNe, Int.reduceNeg, Int.reduceAdd, Int.reduceMul, Int.reduceSub, Int.reduceLT, Int.reduceLE, Int.reduceGT, Int.reduceGE, Int.reducePow, Int.reduceToNat, Int.add_zero, Int.zero_add, String.reduceEq, String.reduceBEq]
  refine date_ok n l hl _ fun v' e' => ?_
  simp only [dt, ↓TL.x_var, ↓TL.x_lit, ↓TL.x_glb, ↓TL.x_tup, ↓TL.x_lst, ↓TL.x_emp, ↓TL.x_rvs, ↓TL.x_met, ↓TL.x_dc1, ↓TL.x_dc2, ↓TL.x_bin, ↓TL.x_neg, ↓TL.x_nt, ↓TL.x_cmp, ↓TL.x_chn, ↓TL.x_and, ↓TL.x_or, ↓TL.x_ife, ↓TL.x_idx, ↓TL.x_slc, ↓TL.x_call, ↓TL.x_pcall, ↓TL.x_bl1, ↓TL.x_bl2, ↓TL.x_isi, ↓TL.x_pop, ↓TL.x_lc, ↓TL.x_lc2, ↓TL.x_nil, ↓TL.x_cons, ↓TL.x_no, ↓TL.x_so, ↓TL.x_tof, ↓TL.x_tand, ↓TL.x_tor, ↓TL.x_tnt, ↓TL.x_tite, ↓TL.x_ctno, ↓TL.x_ctso, ↓TL.x_iof, ↓TL.x_irng1, ↓TL.x_irng2, ↓TL.x_irng3, ↓TL.x_ienum, ↓TL.x_izip, ↓TL.x_irev, ↓TL.s_asg_, ↓TL.s_par_, ↓TL.s_sub_, ↓TL.s_aug_, ↓TL.s_swp_, ↓TL.s_augs_, ↓TL.s_subW, ↓TL.s_exp_, ↓TL.s_app_, ↓TL.s_ite_, ↓TL.s_for_, ↓TL.s_whl_, ↓TL.s_retN_, ↓TL.s_brk_, ↓TL.s_cnt_, ↓TL.s_pas_, ↓TL.ss_nil_, ↓TL.ss_cons_, ↓TL.o_dc1, ↓TL.s_ret_dc1, ↓TL.o_dc2, ↓TL.s_ret_dc2, ↓TL.o_emp, ↓TL.s_ret_emp, ↓TL.o_rvs, ↓TL.s_ret_rvs, ↓TL.o_met, ↓TL.s_ret_met, ↓TL.o_lit, ↓TL.s_ret_lit, ↓TL.o_glb, ↓TL.s_ret_glb, ↓TL.o_tup, ↓TL.s_ret_tup, ↓TL.o_lst, ↓TL.s_ret_lst, ↓TL.o_bin, ↓TL.s_ret_bin, ↓TL.o_neg, ↓TL.s_ret_neg, ↓TL.o_nt, ↓TL.s_ret_nt, ↓TL.o_cmp, ↓TL.s_ret_cmp, ↓TL.o_chn, ↓TL.s_ret_chn, ↓TL.o_and, ↓TL.s_ret_and, ↓TL.o_or, ↓TL.s_ret_or, ↓TL.o_ife, ↓TL.s_ret_ife, ↓TL.o_idx, ↓TL.s_ret_idx, ↓TL.o_slc, ↓TL.s_ret_slc, ↓TL.o_call, ↓TL.s_ret_call, ↓TL.o_pcall, ↓TL.s_ret_pcall, ↓TL.o_bl1, ↓TL.s_ret_bl1, ↓TL.o_bl2, ↓TL.s_ret_bl2, ↓TL.o_isi, ↓TL.s_ret_isi, ↓TL.o_pop, ↓TL.s_ret_pop, ↓TL.o_lc, ↓TL.s_ret_lc, ↓TL.o_lc2, ↓TL.s_ret_lc2, ↓TL.o_var_, ↓TL.s_retv_, ↓TL.l_val, ↓TL.l_slot, ↓TL.tg_fz, ↓TL.tg_own, ↓TL.tg_tup, ↓TL.tg_nil, ↓TL.tg_cons, ↓TL.wv_fz, ↓TL.wv_own, ↓TL.wv_s, ↓TL.lk_fz, ↓TL.lk_own, ↓TL.lk_bor, ↓TL.lk_s, ↓TL.cs_s, ↓TL.cs_un, ↓TL.cs_fz, ↓TL.cs_own, ↓TL.hd_own, ↓TL.hd_bor, ↓TL.hd_s, ↓TL.sh_own, ↓TL.sh_bor, ↓TL.sh_s, ↓TL.st_0, ↓TL.st_s, ↓TL.fr_nil, ↓TL.fr_cons, ↓TL.wp_nil, ↓TL.wp_cons, ↓TL.bk_nil, ↓TL.bk_cons, ↓TL.b_addI, ↓TL.b_subI, ↓TL.b_mulI, ↓TL.b_divI, ↓TL.b_modI, ↓TL.b_powI, ↓TL.b_addS, ↓TL.b_addT, ↓TL.b_addL, ↓TL.b_mulL, ↓TL.b_mulT, ↓TL.a_add, ↓TL.a_sub, ↓TL.a_mul, ↓TL.c_Eq_int, ↓TL.c_Eq_bool, ↓TL.c_Eq_str, ↓TL.c_Eq_tuple, ↓TL.c_Eq_list, ↓TL.c_NotEq_int, ↓TL.c_NotEq_bool, ↓TL.c_NotEq_str, ↓TL.c_NotEq_tuple, ↓TL.c_NotEq_list, ↓TL.c_Lt, ↓TL.c_LtE, ↓TL.c_Gt, ↓TL.c_GtE, ↓TL.c_LtE_b, ↓TL.c_Is_b, ↓TL.c_Is_n, ↓TL.c_IsNot_b, ↓TL.c_IsNot_n, ↓TL.c_In_tuple, ↓TL.c_In_list, ↓TL.c_NotIn_tuple, ↓TL.c_NotIn_list, ↓TL.t_non, ↓TL.t_bl, ↓TL.t_int, ↓TL.t_str, ↓TL.t_lst, ↓TL.t_tup, ↓TL.i_lst, ↓TL.i_tup, ↓TL.sl_lst, ↓TL.sl_tup, ↓TL.as_i, ↓TL.as_b, ↓TL.it_l, ↓TL.it_t, ↓TL.ls_l, ↓TL.zp_n, ↓TL.zp_f, ↓TL.zp_s, ↓TL.rv_l, ↓TL.rv_t, ↓TL.m_sw, ↓TL.m_ew, ↓TL.m_ix, ↓TL.m_ixd, ↓TL.tm_ixd, ↓TL.tm_sw, ↓TL.tm_ew, ↓TL.tm_ix, ↓TL.c_Lt_t, ↓TL.f_lenL, ↓TL.f_lenT, ↓TL.f_lenS, ↓TL.f_abs, ↓TL.f_min, ↓TL.f_max, ↓TL.f_sum, ↓TL.f_all, ↓TL.f_any, ↓TL.f_sort, ↓TL.f_ssetL, ↓TL.f_ssetT, ↓TL.f_trng, ↓TL.f_denL, ↓TL.f_denT, ↓TL.f_tupL, ↓TL.f_tupT, ↓TL.f_lstL, ↓TL.f_lstT, ↓TL.f_intI, ↓TL.f_intB, ↓TL.f_str, ↓TL.g_min, ↓TL.g_max, ↓TL.rd_fz, ↓TL.rd_own, ↓TL.rs_fz, ↓TL.rs_own, ↓TL.ou_b, ↓TL.at_l0, ↓TL.at_l1, ↓TL.at_l2, ↓TL.at_l3, ↓TL.at_l4, ↓TL.at_l5, ↓TL.at_l6, ↓TL.at_l7, ↓TL.ix_l0, ↓TL.ix_l1, ↓TL.ix_l2, ↓TL.ix_l3, ↓TL.ix_l4, ↓TL.ix_l5, ↓TL.ix_l6, ↓TL.ix_l7, ↓TL.ix_l8, ↓TL.ix_l9, ↓TL.ix_l10, ↓TL.ix_l11, ↓TL.ix_l12, TL.isStr, TL.flatD, TL.inD, TL.isiD, TL.tyD, TL.isNone, TL.eqv_int, TL.eqv_bool, TL.eqv_str, TL.sh_int, TL.sh_bool, TL.sz_le, TL.sz_lt, TL.Sl.held, List.map_cons, List.map_nil, List.cons_append, List.nil_append, List.append_nil, List.length_cons, List.length_nil, List.length_map, List.length_set, List.set_cons_zero, List.set_cons_succ, Nat.reduceLT, List.all_cons, List.all_nil, List.any_cons, List.any_nil, List.zip_cons_cons, List.zip_nil_left, List.zip_nil_right, List.foldl_cons, List.foldl_nil, List.getD_cons_zero, List.getD_cons_succ, List.mem_cons, List.not_mem_nil, forall_eq_or_imp, forall_eq, or_false, false_or, true_or, or_true, true_and, and_true, false_and, and_false, false_implies, implies_true, forall_const, ↓reduceIte, if_true, if_false, Bool.false_eq_true, Bool.true_and, Bool.and_true, Bool.false_and, Bool.and_false, Bool.or_false, Bool.false_or, Bool.or_true, Bool.true_or, Bool.not_true, Bool.not_false, Bool.and_eq_true, Bool.or_eq_true, Bool.not_eq_true', decide_eq_true_eq, decide_eq_false_iff_not, ne_eq, not_false_eq_true, not_true_eq_false, reduceCtorEq, decide_true, decide_false, Nat.reduceAdd, Nat.reduceLeDiff, Nat.reduceEqDiff, TL.all_isInt, TL.map_intOf, TL.all_isBool, TL.map_boolOf, TL.take_ints, TL.drop_ints, List.take_succ_cons, List.take_zero, List.drop_succ_cons, List.drop_zero, List.take_nil, List.drop_nil, TL.fmod_n, TL.fdiv_n, TL.cut_to, TL.cut_from, TL.cut_mid, Int.reduceEq, Int.reduceNe, Int.reduceNeg, Int.reduceAdd, Int.reduceMul, Int.reduceSub, Int.reduceLT, Int.reduceLE, Int.reduceGT, Int.reduceGE, Int.reducePow, Int.reduceToNat, Int.add_zero, Int.zero_add, String.reduceEq, String.reduceBEq, min_if]
  have q' := q v v'
  unfold bym at q'
  have m1 : TL.MulOk 360 (dY l - dY f) := mok (by decide) (by decide) (by have := v.y0; have := v'.y0; have := v.y1; have := v'.y1; omega) (by have := v.y0; have := v'.y0; have := v.y1; have := v'.y1; omega)
  have m2 : TL.MulOk 30 (dM l - dM f) := mok (by decide) (by decide) (by have := v.m0; have := v'.m0; have := v.m1; have := v'.m1; omega) (by have := v.m0; have := v'.m0; have := v.m1; have := v'.m1; omega)
  by_cases h : w = "30E/360"
  · simp only [h, decide_true, true_or, if_true] at q' ⊢
    exact ⟨m1, m2, q'⟩
  · simp only [h, decide_false, Bool.false_eq_true, false_or, if_false] at q' ⊢
    split
    · rename_i h2; rw [if_pos h2] at q'; exact ⟨m1, m2, q'⟩
    · rename_i h2; rw [if_neg h2] at q'; exact ⟨m1, m2, q'⟩
theorem s360 : Sz 18 360 := by unfold Sz; decide
theorem s365 : Sz 18 365 := by unfold Sz; decide
theorem cnt_sz {w : Str} {f l : Int} (hf : InD f) (hl : InD l) (v : VD (dY f) (dM f) (dD f)) (v' : VD (dY l) (dM l) (dD l)) : RS 18 (cnt w f l) := by
  have d : Sz 18 (l - f) := by unfold Sz; have := hf.1; have := hf.2; have := hl.1; have := hl.2; omega
  unfold cnt
  split
  · exact .of d s360 (by decide)
  · split
    · exact .of d s365 (by decide)
    · exact .of (bym_sz v v') s360 (by decide)
theorem count_ok (n : Nat) (w : Str) (f l : Int) (hf : InD f) (hl : InD l) (Q : RV → List D → Prop) (q : Q (.fz (frD (cnt w f l))) []) : run tb.G pr (n + 5) "count" [.str w, .int f, .int l] Q := by
  rw [e_count]; unfold b_count
  have d : Sz 18 (l - f) := by unfold Sz; have := hf.1; have := hf.2; have := hl.1; have := hl.2; omega
  unfold cnt at q
  walk_at "S"
  by_cases h : w = "actual/360"
  · rw [if_pos h] at q ⊢
    exact fraction_ok (n + 2) _ _ d s360 (by decide) (by decide) _ q
  · rw [if_neg h] at q ⊢
    by_cases h2 : w = "actual/365"
    · rw [if_pos h2] at q ⊢
      exact fraction_ok (n + 2) _ _ d s365 (by decide) (by decide) _ q
    · rw [if_neg h2] at q ⊢
      refine by_months_ok n w f l hf hl _ fun v v' => ?_
      walk_at "S"
      exact fraction_ok (n + 2) _ _ (bym_sz v v') s360 (by decide) (by decide) _ q
theorem law_count_ok (n : Nat) (w : Str) (f l : Int) (hf : InD f) (hl : InD l) (Q : RV → List D → Prop) (q : Q (.fz (frD (cnt w f l))) []) : run tb.G pr (n + 5) "_law_count" [.str w, .int f, .int l] Q := by
  rw [e_law_count]; unfold b_law_count
  have d : Sz 18 (l - f) := by unfold Sz; have := hf.1; have := hf.2; have := hl.1; have := hl.2; omega
  unfold cnt at q
  walk_at "S"
  by_cases h : w = "actual/360"
  · simp only [h, ↓TL.x_var, ↓TL.x_lit, ↓TL.x_glb, ↓TL.x_tup, ↓TL.x_lst, ↓TL.x_emp, ↓TL.x_rvs, ↓TL.x_met, ↓TL.x_dc1, ↓TL.x_dc2, ↓TL.x_bin, ↓TL.x_neg, ↓TL.x_nt, ↓TL.x_cmp, ↓TL.x_chn, ↓TL.x_and, ↓TL.x_or, ↓TL.x_ife, ↓TL.x_idx, ↓TL.x_slc, ↓TL.x_call, ↓TL.x_pcall, ↓TL.x_bl1, ↓TL.x_bl2, ↓TL.x_isi, ↓TL.x_pop, ↓TL.x_lc, ↓TL.x_lc2, ↓TL.x_nil, ↓TL.x_cons, ↓TL.x_no, ↓TL.x_so, ↓TL.x_tof, ↓TL.x_tand, ↓TL.x_tor, ↓TL.x_tnt, ↓TL.x_tite, ↓TL.x_ctno, ↓TL.x_ctso, ↓TL.x_iof, ↓TL.x_irng1, ↓TL.x_irng2, ↓TL.x_irng3, ↓TL.x_ienum, ↓TL.x_izip, ↓TL.x_irev, ↓TL.s_asg_, ↓TL.s_par_, ↓TL.s_sub_, ↓TL.s_aug_, ↓TL.s_swp_, ↓TL.s_augs_, ↓TL.s_subW, ↓TL.s_exp_, ↓TL.s_app_, ↓TL.s_ite_, ↓TL.s_for_, ↓TL.s_whl_, ↓TL.s_retN_, ↓TL.s_brk_, ↓TL.s_cnt_, ↓TL.s_pas_, ↓TL.ss_nil_, ↓TL.ss_cons_, ↓TL.o_dc1, ↓TL.s_ret_dc1, ↓TL.o_dc2, ↓TL.s_ret_dc2, ↓TL.o_emp, ↓TL.s_ret_emp, ↓TL.o_rvs, ↓TL.s_ret_rvs, ↓TL.o_met, ↓TL.s_ret_met, ↓TL.o_lit, ↓TL.s_ret_lit, ↓TL.o_glb, ↓TL.s_ret_glb, ↓TL.o_tup, ↓TL.s_ret_tup, ↓TL.o_lst, ↓TL.s_ret_lst, ↓TL.o_bin, ↓TL.s_ret_bin, ↓TL.o_neg, ↓TL.s_ret_neg, ↓TL.o_nt, ↓TL.s_ret_nt, ↓TL.o_cmp, ↓TL.s_ret_cmp, ↓TL.o_chn, ↓TL.s_ret_chn, ↓TL.o_and, ↓TL.s_ret_and, ↓TL.o_or, ↓TL.s_ret_or, ↓TL.o_ife, ↓TL.s_ret_ife, ↓TL.o_idx, ↓TL.s_ret_idx, ↓TL.o_slc, ↓TL.s_ret_slc, ↓TL.o_call, ↓TL.s_ret_call, ↓TL.o_pcall, ↓TL.s_ret_pcall, ↓TL.o_bl1, ↓TL.s_ret_bl1, ↓TL.o_bl2, ↓TL.s_ret_bl2, ↓TL.o_isi, ↓TL.s_ret_isi, ↓TL.o_pop, ↓TL.s_ret_pop, ↓TL.o_lc, ↓TL.s_ret_lc, ↓TL.o_lc2, ↓TL.s_ret_lc2, ↓TL.o_var_, ↓TL.s_retv_, ↓TL.l_val, ↓TL.l_slot, ↓TL.tg_fz, ↓TL.tg_own, ↓TL.tg_tup, ↓TL.tg_nil, ↓TL.tg_cons, ↓TL.wv_fz, ↓TL.wv_own, ↓TL.wv_s, ↓TL.lk_fz, ↓TL.lk_own, ↓TL.lk_bor, ↓TL.lk_s, ↓TL.cs_s, ↓TL.cs_un, ↓TL.cs_fz, ↓TL.cs_own, ↓TL.hd_own, ↓TL.hd_bor, ↓TL.hd_s, ↓TL.sh_own, ↓TL.sh_bor, ↓TL.sh_s, ↓TL.st_0, ↓TL.st_s, ↓TL.fr_nil, ↓TL.fr_cons, ↓TL.wp_nil, ↓TL.wp_cons, ↓TL.bk_nil, ↓TL.bk_cons, ↓TL.b_addI, ↓TL.b_subI, ↓TL.b_mulI, ↓TL.b_divI, ↓TL.b_modI, ↓TL.b_powI, ↓TL.b_addS, ↓TL.b_addT, ↓TL.b_addL, ↓TL.b_mulL, ↓TL.b_mulT, ↓TL.a_add, ↓TL.a_sub, ↓TL.a_mul, ↓TL.c_Eq_int, ↓TL.c_Eq_bool, ↓TL.c_Eq_str, ↓TL.c_Eq_tuple, ↓TL.c_Eq_list, ↓TL.c_NotEq_int, ↓TL.c_NotEq_bool, ↓TL.c_NotEq_str, ↓TL.c_NotEq_tuple, ↓TL.c_NotEq_list, ↓TL.c_Lt, ↓TL.c_LtE, ↓TL.c_Gt, ↓TL.c_GtE, ↓TL.c_LtE_b, ↓TL.c_Is_b, ↓TL.c_Is_n, ↓TL.c_IsNot_b, ↓TL.c_IsNot_n, ↓TL.c_In_tuple, ↓TL.c_In_list, ↓TL.c_NotIn_tuple, ↓TL.c_NotIn_list, ↓TL.t_non, ↓TL.t_bl, ↓TL.t_int, ↓TL.t_str, ↓TL.t_lst, ↓TL.t_tup, ↓TL.i_lst, ↓TL.i_tup, ↓TL.sl_lst, ↓TL.sl_tup, ↓TL.as_i, ↓TL.as_b, ↓TL.it_l, ↓TL.it_t, ↓TL.ls_l, ↓TL.zp_n, ↓TL.zp_f, ↓TL.zp_s, ↓TL.rv_l, ↓TL.rv_t, ↓TL.m_sw, ↓TL.m_ew, ↓TL.m_ix, ↓TL.m_ixd, ↓TL.tm_ixd, ↓TL.tm_sw, ↓TL.tm_ew, ↓TL.tm_ix, ↓TL.c_Lt_t, ↓TL.f_lenL, ↓TL.f_lenT, ↓TL.f_lenS, ↓TL.f_abs, ↓TL.f_min, ↓TL.f_max, ↓TL.f_sum, ↓TL.f_all, ↓TL.f_any, ↓TL.f_sort, ↓TL.f_ssetL, ↓TL.f_ssetT, ↓TL.f_trng, ↓TL.f_denL, ↓TL.f_denT, ↓TL.f_tupL, ↓TL.f_tupT, ↓TL.f_lstL, ↓TL.f_lstT, ↓TL.f_intI, ↓TL.f_intB, ↓TL.f_str, ↓TL.g_min, ↓TL.g_max, ↓TL.rd_fz, ↓TL.rd_own, ↓TL.rs_fz, ↓TL.rs_own, ↓TL.ou_b, ↓TL.at_l0, ↓TL.at_l1, ↓TL.at_l2, ↓TL.at_l3, ↓TL.at_l4, ↓TL.at_l5, ↓TL.at_l6, ↓TL.at_l7, ↓TL.ix_l0, ↓TL.ix_l1, ↓TL.ix_l2, ↓TL.ix_l3, ↓TL.ix_l4, ↓TL.ix_l5, ↓TL.ix_l6, ↓TL.ix_l7, ↓TL.ix_l8, ↓TL.ix_l9, ↓TL.ix_l10, ↓TL.ix_l11, ↓TL.ix_l12, TL.isStr, TL.flatD, TL.inD, TL.isiD, TL.tyD, TL.isNone, TL.eqv_int, TL.eqv_bool, TL.eqv_str, TL.sh_int, TL.sh_bool, TL.sz_le, TL.sz_lt, TL.Sl.held, List.map_cons, List.map_nil, List.cons_append, List.nil_append, List.append_nil, List.length_cons, List.length_nil, List.length_map, List.length_set, List.set_cons_zero, List.set_cons_succ, Nat.reduceLT, List.all_cons, List.all_nil, List.any_cons, List.any_nil, List.zip_cons_cons, List.zip_nil_left, List.zip_nil_right, List.foldl_cons, List.foldl_nil, List.getD_cons_zero, List.getD_cons_succ, List.mem_cons, List.not_mem_nil, forall_eq_or_imp, forall_eq, or_false, false_or, true_or, or_true, true_and, and_true, false_and, and_false, false_implies, implies_true, forall_const, ↓reduceIte, if_true, if_false, Bool.false_eq_true, Bool.true_and, Bool.and_true, Bool.false_and, Bool.and_false, Bool.or_false, Bool.false_or, Bool.or_true, Bool.true_or, Bool.not_true, Bool.not_false, Bool.and_eq_true, Bool.or_eq_true, Bool.not_eq_true', decide_eq_true_eq, decide_eq_false_iff_not, ne_eq, not_false_eq_true, not_true_eq_false, reduceCtorEq, decide_true, decide_false, Nat.reduceAdd, Nat.reduceLeDiff, Nat.reduceEqDiff, TL.all_isInt, TL.map_intOf, TL.all_isBool, TL.map_boolOf, TL.take_ints, TL.drop_ints, List.take_succ_cons, List.take_zero, List.drop_succ_cons, List.drop_zero, List.take_nil, List.drop_nil, TL.fmod_n, TL.fdiv_n, TL.cut_to, TL.cut_from, TL.cut_mid, Int.reduceEq, Int.reduceNe, Int.reduceNeg, Int.reduceAdd, Int.reduceMul, Int.reduceSub, Int.reduceLT, Int.reduceLE, Int.reduceGT, Int.reduceGE, Int.reducePow, Int.reduceToNat, Int.add_zero, Int.zero_add, String.reduceEq, String.reduceBEq] at q ⊢
    exact law_fractionP_ok (n + 2) _ _ d s360 (by decide) (by decide) _ q
  · by_cases h2 : w = "actual/365"
    · simp only [h, h2, ↓TL.x_var, ↓TL.x_lit, ↓TL.x_glb, ↓TL.x_tup, ↓TL.x_lst, ↓TL.x_emp, ↓TL.x_rvs, ↓TL.x_met, ↓TL.x_dc1, ↓TL.x_dc2, ↓TL.x_bin, ↓TL.x_neg, ↓TL.x_nt, ↓TL.x_cmp, ↓TL.x_chn, ↓TL.x_and, ↓TL.x_or, ↓TL.x_ife, ↓TL.x_idx, ↓TL.x_slc, ↓TL.x_call, ↓TL.x_pcall, ↓TL.x_bl1, ↓TL.x_bl2, ↓TL.x_isi, ↓TL.x_pop, ↓TL.x_lc, ↓TL.x_lc2, ↓TL.x_nil, ↓TL.x_cons, ↓TL.x_no, ↓TL.x_so, ↓TL.x_tof, ↓TL.x_tand, ↓TL.x_tor, ↓TL.x_tnt, ↓TL.x_tite, ↓TL.x_ctno, ↓TL.x_ctso, ↓TL.x_iof, ↓TL.x_irng1, ↓TL.x_irng2, ↓TL.x_irng3, ↓TL.x_ienum, ↓TL.x_izip, ↓TL.x_irev, ↓TL.s_asg_, ↓TL.s_par_, ↓TL.s_sub_, ↓TL.s_aug_, ↓TL.s_swp_, ↓TL.s_augs_, ↓TL.s_subW, ↓TL.s_exp_, ↓TL.s_app_, ↓TL.s_ite_, ↓TL.s_for_, ↓TL.s_whl_, ↓TL.s_retN_, ↓TL.s_brk_, ↓TL.s_cnt_, ↓TL.s_pas_, ↓TL.ss_nil_, ↓TL.ss_cons_, ↓TL.o_dc1, ↓TL.s_ret_dc1, ↓TL.o_dc2, ↓TL.s_ret_dc2, ↓TL.o_emp, ↓TL.s_ret_emp, ↓TL.o_rvs, ↓TL.s_ret_rvs, ↓TL.o_met, ↓TL.s_ret_met, ↓TL.o_lit, ↓TL.s_ret_lit, ↓TL.o_glb, ↓TL.s_ret_glb, ↓TL.o_tup, ↓TL.s_ret_tup, ↓TL.o_lst, ↓TL.s_ret_lst, ↓TL.o_bin, ↓TL.s_ret_bin, ↓TL.o_neg, ↓TL.s_ret_neg, ↓TL.o_nt, ↓TL.s_ret_nt, ↓TL.o_cmp, ↓TL.s_ret_cmp, ↓TL.o_chn, ↓TL.s_ret_chn, ↓TL.o_and, ↓TL.s_ret_and, ↓TL.o_or, ↓TL.s_ret_or, ↓TL.o_ife, ↓TL.s_ret_ife, ↓TL.o_idx, ↓TL.s_ret_idx, ↓TL.o_slc, ↓TL.s_ret_slc, ↓TL.o_call, ↓TL.s_ret_call, ↓TL.o_pcall, ↓TL.s_ret_pcall, ↓TL.o_bl1, ↓TL.s_ret_bl1, ↓TL.o_bl2, ↓TL.s_ret_bl2, ↓TL.o_isi, ↓TL.s_ret_isi, ↓TL.o_pop, ↓TL.s_ret_pop, ↓TL.o_lc, ↓TL.s_ret_lc, ↓TL.o_lc2, ↓TL.s_ret_lc2, ↓TL.o_var_, ↓TL.s_retv_, ↓TL.l_val, ↓TL.l_slot, ↓TL.tg_fz, ↓TL.tg_own, ↓TL.tg_tup, ↓TL.tg_nil, ↓TL.tg_cons, ↓TL.wv_fz, ↓TL.wv_own, ↓TL.wv_s, ↓TL.lk_fz, ↓TL.lk_own, ↓TL.lk_bor, ↓TL.lk_s, ↓TL.cs_s, ↓TL.cs_un, ↓TL.cs_fz, ↓TL.cs_own, ↓TL.hd_own, ↓TL.hd_bor, ↓TL.hd_s, ↓TL.sh_own, ↓TL.sh_bor, ↓TL.sh_s, ↓TL.st_0, ↓TL.st_s, ↓TL.fr_nil, ↓TL.fr_cons, ↓TL.wp_nil, ↓TL.wp_cons, ↓TL.bk_nil, ↓TL.bk_cons, ↓TL.b_addI, ↓TL.b_subI, ↓TL.b_mulI, ↓TL.b_divI, ↓TL.b_modI, ↓TL.b_powI, ↓TL.b_addS, ↓TL.b_addT, ↓TL.b_addL, ↓TL.b_mulL, ↓TL.b_mulT, ↓TL.a_add, ↓TL.a_sub, ↓TL.a_mul, ↓TL.c_Eq_int, ↓TL.c_Eq_bool, ↓TL.c_Eq_str, ↓TL.c_Eq_tuple, ↓TL.c_Eq_list, ↓TL.c_NotEq_int, ↓TL.c_NotEq_bool, ↓TL.c_NotEq_str, ↓TL.c_NotEq_tuple, ↓TL.c_NotEq_list, ↓TL.c_Lt, ↓TL.c_LtE, ↓TL.c_Gt, ↓TL.c_GtE, ↓TL.c_LtE_b, ↓TL.c_Is_b, ↓TL.c_Is_n, ↓TL.c_IsNot_b, ↓TL.c_IsNot_n, ↓TL.c_In_tuple, ↓TL.c_In_list, ↓TL.c_NotIn_tuple, ↓TL.c_NotIn_list, ↓TL.t_non, ↓TL.t_bl, ↓TL.t_int, ↓TL.t_str, ↓TL.t_lst, ↓TL.t_tup, ↓TL.i_lst, ↓TL.i_tup, ↓TL.sl_lst, ↓TL.sl_tup, ↓TL.as_i, ↓TL.as_b, ↓TL.it_l, ↓TL.it_t, ↓TL.ls_l, ↓TL.zp_n, ↓TL.zp_f, ↓TL.zp_s, ↓TL.rv_l, ↓TL.rv_t, ↓TL.m_sw, ↓TL.m_ew, ↓TL.m_ix, ↓TL.m_ixd, ↓TL.tm_ixd, ↓TL.tm_sw, ↓TL.tm_ew, ↓TL.tm_ix, ↓TL.c_Lt_t, ↓TL.f_lenL, ↓TL.f_lenT, ↓TL.f_lenS, ↓TL.f_abs, ↓TL.f_min, ↓TL.f_max, ↓TL.f_sum, ↓TL.f_all, ↓TL.f_any, ↓TL.f_sort, ↓TL.f_ssetL, ↓TL.f_ssetT, ↓TL.f_trng, ↓TL.f_denL, ↓TL.f_denT, ↓TL.f_tupL, ↓TL.f_tupT, ↓TL.f_lstL, ↓TL.f_lstT, ↓TL.f_intI, ↓TL.f_intB, ↓TL.f_str, ↓TL.g_min, ↓TL.g_max, ↓TL.rd_fz, ↓TL.rd_own, ↓TL.rs_fz, ↓TL.rs_own, ↓TL.ou_b, ↓TL.at_l0, ↓TL.at_l1, ↓TL.at_l2, ↓TL.at_l3, ↓TL.at_l4, ↓TL.at_l5, ↓TL.at_l6, ↓TL.at_l7, ↓TL.ix_l0, ↓TL.ix_l1, ↓TL.ix_l2, ↓TL.ix_l3, ↓TL.ix_l4, ↓TL.ix_l5, ↓TL.ix_l6, ↓TL.ix_l7, ↓TL.ix_l8, ↓TL.ix_l9, ↓TL.ix_l10, ↓TL.ix_l11, ↓TL.ix_l12, TL.isStr, TL.flatD, TL.inD, TL.isiD, TL.tyD, TL.isNone, TL.eqv_int, TL.eqv_bool, TL.eqv_str, TL.sh_int, TL.sh_bool, TL.sz_le, TL.sz_lt, TL.Sl.held, List.map_cons, List.map_nil, List.cons_append, List.nil_append, List.append_nil, List.length_cons, List.length_nil, List.length_map, List.length_set, List.set_cons_zero, List.set_cons_succ, Nat.reduceLT, List.all_cons, List.all_nil, List.any_cons, List.any_nil, List.zip_cons_cons, List.zip_nil_left, List.zip_nil_right, List.foldl_cons, List.foldl_nil, List.getD_cons_zero, List.getD_cons_succ, List.mem_cons, List.not_mem_nil, forall_eq_or_imp, forall_eq, or_false, false_or, true_or, or_true, true_and, and_true, false_and, and_false, false_implies, implies_true, forall_const, ↓reduceIte, if_true, if_false, Bool.false_eq_true, Bool.true_and, Bool.and_true, Bool.false_and, Bool.and_false, Bool.or_false, Bool.false_or, Bool.or_true, Bool.true_or, Bool.not_true, Bool.not_false, Bool.and_eq_true, Bool.or_eq_true, Bool.not_eq_true', decide_eq_true_eq, decide_eq_false_iff_not, ne_eq, not_false_eq_true, not_true_eq_false, reduceCtorEq, decide_true, decide_false, Nat.reduceAdd, Nat.reduceLeDiff, Nat.reduceEqDiff, TL.all_isInt, TL.map_intOf, TL.all_isBool, TL.map_boolOf, TL.take_ints, TL.drop_ints, List.take_succ_cons, List.take_zero, List.drop_succ_cons, List.drop_zero, List.take_nil, List.drop_nil, TL.fmod_n, TL.fdiv_n, TL.cut_to, TL.cut_from, TL.cut_mid, Int.reduceEq, Int.reduceNe, Int.reduceNeg, Int.reduceAdd, Int.reduceMul, Int.reduceSub, Int.reduceLT, Int.reduceLE, Int.reduceGT, Int.reduceGE, Int.reducePow, Int.reduceToNat, Int.add_zero, Int.zero_add, String.reduceEq, String.reduceBEq] at q ⊢
      simp only [show ¬(("actual/365" : Str) = "actual/360") by decide, ↓TL.x_var, ↓TL.x_lit, ↓TL.x_glb, ↓TL.x_tup, ↓TL.x_lst, ↓TL.x_emp, ↓TL.x_rvs, ↓TL.x_met, ↓TL.x_dc1, ↓TL.x_dc2, ↓TL.x_bin, ↓TL.x_neg, ↓TL.x_nt, ↓TL.x_cmp, ↓TL.x_chn, ↓TL.x_and, ↓TL.x_or, ↓TL.x_ife, ↓TL.x_idx, ↓TL.x_slc, ↓TL.x_call, ↓TL.x_pcall, ↓TL.x_bl1, ↓TL.x_bl2, ↓TL.x_isi, ↓TL.x_pop, ↓TL.x_lc, ↓TL.x_lc2, ↓TL.x_nil, ↓TL.x_cons, ↓TL.x_no, ↓TL.x_so, ↓TL.x_tof, ↓TL.x_tand, ↓TL.x_tor, ↓TL.x_tnt, ↓TL.x_tite, ↓TL.x_ctno, ↓TL.x_ctso, ↓TL.x_iof, ↓TL.x_irng1, ↓TL.x_irng2, ↓TL.x_irng3, ↓TL.x_ienum, ↓TL.x_izip, ↓TL.x_irev, ↓TL.s_asg_, ↓TL.s_par_, ↓TL.s_sub_, ↓TL.s_aug_, ↓TL.s_swp_, ↓TL.s_augs_, ↓TL.s_subW, ↓TL.s_exp_, ↓TL.s_app_, ↓TL.s_ite_, ↓TL.s_for_, ↓TL.s_whl_, ↓TL.s_retN_, ↓TL.s_brk_, ↓TL.s_cnt_, ↓TL.s_pas_, ↓TL.ss_nil_, ↓TL.ss_cons_, ↓TL.o_dc1, ↓TL.s_ret_dc1, ↓TL.o_dc2, ↓TL.s_ret_dc2, ↓TL.o_emp, ↓TL.s_ret_emp, ↓TL.o_rvs, ↓TL.s_ret_rvs, ↓TL.o_met, ↓TL.s_ret_met, ↓TL.o_lit, ↓TL.s_ret_lit, ↓TL.o_glb, ↓TL.s_ret_glb, ↓TL.o_tup, ↓TL.s_ret_tup, ↓TL.o_lst, ↓TL.s_ret_lst, ↓TL.o_bin, ↓TL.s_ret_bin, ↓TL.o_neg, ↓TL.s_ret_neg, ↓TL.o_nt, ↓TL.s_ret_nt, ↓TL.o_cmp, ↓TL.s_ret_cmp, ↓TL.o_chn, ↓TL.s_ret_chn, ↓TL.o_and, ↓TL.s_ret_and, ↓TL.o_or, ↓TL.s_ret_or, ↓TL.o_ife, ↓TL.s_ret_ife, ↓TL.o_idx, ↓TL.s_ret_idx, ↓TL.o_slc, ↓TL.s_ret_slc, ↓TL.o_call, ↓TL.s_ret_call, ↓TL.o_pcall, ↓TL.s_ret_pcall, ↓TL.o_bl1, ↓TL.s_ret_bl1, ↓TL.o_bl2, ↓TL.s_ret_bl2, ↓TL.o_isi, ↓TL.s_ret_isi, ↓TL.o_pop, ↓TL.s_ret_pop, ↓TL.o_lc, ↓TL.s_ret_lc, ↓TL.o_lc2, ↓TL.s_ret_lc2, ↓TL.o_var_, ↓TL.s_retv_, ↓TL.l_val, ↓TL.l_slot, ↓TL.tg_fz, ↓TL.tg_own, ↓TL.tg_tup, ↓TL.tg_nil, ↓TL.tg_cons, ↓TL.wv_fz, ↓TL.wv_own, ↓TL.wv_s, ↓TL.lk_fz, ↓TL.lk_own, ↓TL.lk_bor, ↓TL.lk_s, ↓TL.cs_s, ↓TL.cs_un, ↓TL.cs_fz, ↓TL.cs_own, ↓TL.hd_own, ↓TL.hd_bor, ↓TL.hd_s, ↓TL.sh_own, ↓TL.sh_bor, ↓TL.sh_s, ↓TL.st_0, ↓TL.st_s, ↓TL.fr_nil, ↓TL.fr_cons, ↓TL.wp_nil, ↓TL.wp_cons, ↓TL.bk_nil, ↓TL.bk_cons, ↓TL.b_addI, ↓TL.b_subI, ↓TL.b_mulI, ↓TL.b_divI, ↓TL.b_modI, ↓TL.b_powI, ↓TL.b_addS, ↓TL.b_addT, ↓TL.b_addL, ↓TL.b_mulL, ↓TL.b_mulT, ↓TL.a_add, ↓TL.a_sub, ↓TL.a_mul, ↓TL.c_Eq_int, ↓TL.c_Eq_bool, ↓TL.c_Eq_str, ↓TL.c_Eq_tuple, ↓TL.c_Eq_list, ↓TL.c_NotEq_int, ↓TL.c_NotEq_bool, ↓TL.c_NotEq_str, ↓TL.c_NotEq_tuple, ↓TL.c_NotEq_list, ↓TL.c_Lt, ↓TL.c_LtE, ↓TL.c_Gt, ↓TL.c_GtE, ↓TL.c_LtE_b, ↓TL.c_Is_b, ↓TL.c_Is_n, ↓TL.c_IsNot_b, ↓TL.c_IsNot_n, ↓TL.c_In_tuple, ↓TL.c_In_list, ↓TL.c_NotIn_tuple, ↓TL.c_NotIn_list, ↓TL.t_non, ↓TL.t_bl, ↓TL.t_int, ↓TL.t_str, ↓TL.t_lst, ↓TL.t_tup, ↓TL.i_lst, ↓TL.i_tup, ↓TL.sl_lst, ↓TL.sl_tup, ↓TL.as_i, ↓TL.as_b, ↓TL.it_l, ↓TL.it_t, ↓TL.ls_l, ↓TL.zp_n, ↓TL.zp_f, ↓TL.zp_s, ↓TL.rv_l, ↓TL.rv_t, ↓TL.m_sw, ↓TL.m_ew, ↓TL.m_ix, ↓TL.m_ixd, ↓TL.tm_ixd, ↓TL.tm_sw, ↓TL.tm_ew, ↓TL.tm_ix, ↓TL.c_Lt_t, ↓TL.f_lenL, ↓TL.f_lenT, ↓TL.f_lenS, ↓TL.f_abs, ↓TL.f_min, ↓TL.f_max, ↓TL.f_sum, ↓TL.f_all, ↓TL.f_any, ↓TL.f_sort, ↓TL.f_ssetL, ↓TL.f_ssetT, ↓TL.f_trng, ↓TL.f_denL, ↓TL.f_denT, ↓TL.f_tupL, ↓TL.f_tupT, ↓TL.f_lstL, ↓TL.f_lstT, ↓TL.f_intI, ↓TL.f_intB, ↓TL.f_str, ↓TL.g_min, ↓TL.g_max, ↓TL.rd_fz, ↓TL.rd_own, ↓TL.rs_fz, ↓TL.rs_own, ↓TL.ou_b, ↓TL.at_l0, ↓TL.at_l1, ↓TL.at_l2, ↓TL.at_l3, ↓TL.at_l4, ↓TL.at_l5, ↓TL.at_l6, ↓TL.at_l7, ↓TL.ix_l0, ↓TL.ix_l1, ↓TL.ix_l2, ↓TL.ix_l3, ↓TL.ix_l4, ↓TL.ix_l5, ↓TL.ix_l6, ↓TL.ix_l7, ↓TL.ix_l8, ↓TL.ix_l9, ↓TL.ix_l10, ↓TL.ix_l11, ↓TL.ix_l12, TL.isStr, TL.flatD, TL.inD, TL.isiD, TL.tyD, TL.isNone, TL.eqv_int, TL.eqv_bool, TL.eqv_str, TL.sh_int, TL.sh_bool, TL.sz_le, TL.sz_lt, TL.Sl.held, List.map_cons, List.map_nil, List.cons_append, List.nil_append, List.append_nil, List.length_cons, List.length_nil, List.length_map, List.length_set, List.set_cons_zero, List.set_cons_succ, Nat.reduceLT, List.all_cons, List.all_nil, List.any_cons, List.any_nil, List.zip_cons_cons, List.zip_nil_left, List.zip_nil_right, List.foldl_cons, List.foldl_nil, List.getD_cons_zero, List.getD_cons_succ, List.mem_cons, List.not_mem_nil, forall_eq_or_imp, forall_eq, or_false, false_or, true_or, or_true, true_and, and_true, false_and, and_false, false_implies, implies_true, forall_const, ↓reduceIte, if_true, if_false, Bool.false_eq_true, Bool.true_and, Bool.and_true, Bool.false_and, Bool.and_false, Bool.or_false, Bool.false_or, Bool.or_true, Bool.true_or, Bool.not_true, Bool.not_false, Bool.and_eq_true, Bool.or_eq_true, Bool.not_eq_true', decide_eq_true_eq, decide_eq_false_iff_not, ne_eq, not_false_eq_true, not_true_eq_false, reduceCtorEq, decide_true, decide_false, Nat.reduceAdd, Nat.reduceLeDiff, Nat.reduceEqDiff, TL.all_isInt, TL.map_intOf, TL.all_isBool, TL.map_boolOf, TL.take_ints, TL.drop_ints, List.take_succ_cons, List.take_zero, List.drop_succ_cons, List.drop_zero, List.take_nil, List.drop_nil, TL.fmod_n, TL.fdiv_n, TL.cut_to, TL.cut_from, TL.cut_mid, Int.reduceEq, Int.reduceNe, Int.reduceNeg, Int.reduceAdd, Int.reduceMul, Int.reduceSub, Int.reduceLT, Int.reduceLE, Int.reduceGT, Int.reduceGE, Int.reducePow, Int.reduceToNat, Int.add_zero, Int.zero_add, String.reduceEq, String.reduceBEq] at q ⊢
      exact law_fractionP_ok (n + 2) _ _ d s365 (by decide) (by decide) _ q
    · simp only [h, h2, ↓TL.x_var, ↓TL.x_lit, ↓TL.x_glb, ↓TL.x_tup, ↓TL.x_lst, ↓TL.x_emp, ↓TL.x_rvs, ↓TL.x_met, ↓TL.x_dc1, ↓TL.x_dc2, ↓TL.x_bin, ↓TL.x_neg, ↓TL.x_nt, ↓TL.x_cmp, ↓TL.x_chn, ↓TL.x_and, ↓TL.x_or, ↓TL.x_ife, ↓TL.x_idx, ↓TL.x_slc, ↓TL.x_call, ↓TL.x_pcall, ↓TL.x_bl1, ↓TL.x_bl2, ↓TL.x_isi, ↓TL.x_pop, ↓TL.x_lc, ↓TL.x_lc2, ↓TL.x_nil, ↓TL.x_cons, ↓TL.x_no, ↓TL.x_so, ↓TL.x_tof, ↓TL.x_tand, ↓TL.x_tor, ↓TL.x_tnt, ↓TL.x_tite, ↓TL.x_ctno, ↓TL.x_ctso, ↓TL.x_iof, ↓TL.x_irng1, ↓TL.x_irng2, ↓TL.x_irng3, ↓TL.x_ienum, ↓TL.x_izip, ↓TL.x_irev, ↓TL.s_asg_, ↓TL.s_par_, ↓TL.s_sub_, ↓TL.s_aug_, ↓TL.s_swp_, ↓TL.s_augs_, ↓TL.s_subW, ↓TL.s_exp_, ↓TL.s_app_, ↓TL.s_ite_, ↓TL.s_for_, ↓TL.s_whl_, ↓TL.s_retN_, ↓TL.s_brk_, ↓TL.s_cnt_, ↓TL.s_pas_, ↓TL.ss_nil_, ↓TL.ss_cons_, ↓TL.o_dc1, ↓TL.s_ret_dc1, ↓TL.o_dc2, ↓TL.s_ret_dc2, ↓TL.o_emp, ↓TL.s_ret_emp, ↓TL.o_rvs, ↓TL.s_ret_rvs, ↓TL.o_met, ↓TL.s_ret_met, ↓TL.o_lit, ↓TL.s_ret_lit, ↓TL.o_glb, ↓TL.s_ret_glb, ↓TL.o_tup, ↓TL.s_ret_tup, ↓TL.o_lst, ↓TL.s_ret_lst, ↓TL.o_bin, ↓TL.s_ret_bin, ↓TL.o_neg, ↓TL.s_ret_neg, ↓TL.o_nt, ↓TL.s_ret_nt, ↓TL.o_cmp, ↓TL.s_ret_cmp, ↓TL.o_chn, ↓TL.s_ret_chn, ↓TL.o_and, ↓TL.s_ret_and, ↓TL.o_or, ↓TL.s_ret_or, ↓TL.o_ife, ↓TL.s_ret_ife, ↓TL.o_idx, ↓TL.s_ret_idx, ↓TL.o_slc, ↓TL.s_ret_slc, ↓TL.o_call, ↓TL.s_ret_call, ↓TL.o_pcall, ↓TL.s_ret_pcall, ↓TL.o_bl1, ↓TL.s_ret_bl1, ↓TL.o_bl2, ↓TL.s_ret_bl2, ↓TL.o_isi, ↓TL.s_ret_isi, ↓TL.o_pop, ↓TL.s_ret_pop, ↓TL.o_lc, ↓TL.s_ret_lc, ↓TL.o_lc2, ↓TL.s_ret_lc2, ↓TL.o_var_, ↓TL.s_retv_, ↓TL.l_val, ↓TL.l_slot, ↓TL.tg_fz, ↓TL.tg_own, ↓TL.tg_tup, ↓TL.tg_nil, ↓TL.tg_cons, ↓TL.wv_fz, ↓TL.wv_own, ↓TL.wv_s, ↓TL.lk_fz, ↓TL.lk_own, ↓TL.lk_bor, ↓TL.lk_s, ↓TL.cs_s, ↓TL.cs_un, ↓TL.cs_fz, ↓TL.cs_own, ↓TL.hd_own, ↓TL.hd_bor, ↓TL.hd_s, ↓TL.sh_own, ↓TL.sh_bor, ↓TL.sh_s, ↓TL.st_0, ↓TL.st_s, ↓TL.fr_nil, ↓TL.fr_cons, ↓TL.wp_nil, ↓TL.wp_cons, ↓TL.bk_nil, ↓TL.bk_cons, ↓TL.b_addI, ↓TL.b_subI, ↓TL.b_mulI, ↓TL.b_divI, ↓TL.b_modI, ↓TL.b_powI, ↓TL.b_addS, ↓TL.b_addT, ↓TL.b_addL, ↓TL.b_mulL, ↓TL.b_mulT, ↓TL.a_add, ↓TL.a_sub, ↓TL.a_mul, ↓TL.c_Eq_int, ↓TL.c_Eq_bool, ↓TL.c_Eq_str, ↓TL.c_Eq_tuple, ↓TL.c_Eq_list, ↓TL.c_NotEq_int, ↓TL.c_NotEq_bool, ↓TL.c_NotEq_str, ↓TL.c_NotEq_tuple, ↓TL.c_NotEq_list, ↓TL.c_Lt, ↓TL.c_LtE, ↓TL.c_Gt, ↓TL.c_GtE, ↓TL.c_LtE_b, ↓TL.c_Is_b, ↓TL.c_Is_n, ↓TL.c_IsNot_b, ↓TL.c_IsNot_n, ↓TL.c_In_tuple, ↓TL.c_In_list, ↓TL.c_NotIn_tuple, ↓TL.c_NotIn_list, ↓TL.t_non, ↓TL.t_bl, ↓TL.t_int, ↓TL.t_str, ↓TL.t_lst, ↓TL.t_tup, ↓TL.i_lst, ↓TL.i_tup, ↓TL.sl_lst, ↓TL.sl_tup, ↓TL.as_i, ↓TL.as_b, ↓TL.it_l, ↓TL.it_t, ↓TL.ls_l, ↓TL.zp_n, ↓TL.zp_f, ↓TL.zp_s, ↓TL.rv_l, ↓TL.rv_t, ↓TL.m_sw, ↓TL.m_ew, ↓TL.m_ix, ↓TL.m_ixd, ↓TL.tm_ixd, ↓TL.tm_sw, ↓TL.tm_ew, ↓TL.tm_ix, ↓TL.c_Lt_t, ↓TL.f_lenL, ↓TL.f_lenT, ↓TL.f_lenS, ↓TL.f_abs, ↓TL.f_min, ↓TL.f_max, ↓TL.f_sum, ↓TL.f_all, ↓TL.f_any, ↓TL.f_sort, ↓TL.f_ssetL, ↓TL.f_ssetT, ↓TL.f_trng, ↓TL.f_denL, ↓TL.f_denT, ↓TL.f_tupL, ↓TL.f_tupT, ↓TL.f_lstL, ↓TL.f_lstT, ↓TL.f_intI, ↓TL.f_intB, ↓TL.f_str, ↓TL.g_min, ↓TL.g_max, ↓TL.rd_fz, ↓TL.rd_own, ↓TL.rs_fz, ↓TL.rs_own, ↓TL.ou_b, ↓TL.at_l0, ↓TL.at_l1, ↓TL.at_l2, ↓TL.at_l3, ↓TL.at_l4, ↓TL.at_l5, ↓TL.at_l6, ↓TL.at_l7, ↓TL.ix_l0, ↓TL.ix_l1, ↓TL.ix_l2, ↓TL.ix_l3, ↓TL.ix_l4, ↓TL.ix_l5, ↓TL.ix_l6, ↓TL.ix_l7, ↓TL.ix_l8, ↓TL.ix_l9, ↓TL.ix_l10, ↓TL.ix_l11, ↓TL.ix_l12, TL.isStr, TL.flatD, TL.inD, TL.isiD, TL.tyD, TL.isNone, TL.eqv_int, TL.eqv_bool, TL.eqv_str, TL.sh_int, TL.sh_bool, TL.sz_le, TL.sz_lt, TL.Sl.held, List.map_cons, List.map_nil, List.cons_append, List.nil_append, List.append_nil, List.length_cons, List.length_nil, List.length_map, List.length_set, List.set_cons_zero, List.set_cons_succ, Nat.reduceLT, List.all_cons, List.all_nil, List.any_cons, List.any_nil, List.zip_cons_cons, List.zip_nil_left, List.zip_nil_right, List.foldl_cons, List.foldl_nil, List.getD_cons_zero, List.getD_cons_succ, List.mem_cons, List.not_mem_nil, forall_eq_or_imp, forall_eq, or_false, false_or, true_or, or_true, true_and, and_true, false_and, and_false, false_implies, implies_true, forall_const, ↓reduceIte, if_true, if_false, Bool.false_eq_true, Bool.true_and, Bool.and_true, Bool.false_and, Bool.and_false, Bool.or_false, Bool.false_or, Bool.or_true, Bool.true_or, Bool.not_true, Bool.not_false, Bool.and_eq_true, Bool.or_eq_true, Bool.not_eq_true', decide_eq_true_eq, decide_eq_false_iff_not, ne_eq, not_false_eq_true, not_true_eq_false, reduceCtorEq, decide_true, decide_false, Nat.reduceAdd, Nat.reduceLeDiff, Nat.reduceEqDiff, TL.all_isInt, TL.map_intOf, TL.all_isBool, TL.map_boolOf, TL.take_ints, TL.drop_ints, List.take_succ_cons, List.take_zero, List.drop_succ_cons, List.drop_zero, List.take_nil, List.drop_nil, TL.fmod_n, TL.fdiv_n, TL.cut_to, TL.cut_from, TL.cut_mid, Int.reduceEq, Int.reduceNe, Int.reduceNeg, Int.reduceAdd, Int.reduceMul, Int.reduceSub, Int.reduceLT, Int.reduceLE, Int.reduceGT, Int.reduceGE, Int.reducePow, Int.reduceToNat, Int.add_zero, Int.zero_add, String.reduceEq, String.reduceBEq] at q ⊢
      refine law_date_ok (n + 1) f hf _ fun v e => ?_
      simp only [dt, ↓TL.x_var, ↓TL.x_lit, ↓TL.x_glb, ↓TL.x_tup, ↓TL.x_lst, ↓TL.x_emp, ↓TL.x_rvs, ↓TL.x_met, ↓TL.x_dc1, ↓TL.x_dc2, ↓TL.x_bin, ↓TL.x_neg, ↓TL.x_nt, ↓TL.x_cmp, ↓TL.x_chn, ↓TL.x_and, ↓TL.x_or, ↓TL.x_ife, ↓TL.x_idx, ↓TL.x_slc, ↓TL.x_call, ↓TL.x_pcall, ↓TL.x_bl1, ↓TL.x_bl2, ↓TL.x_isi, ↓TL.x_pop, ↓TL.x_lc, ↓TL.x_lc2, ↓TL.x_nil, ↓TL.x_cons, ↓TL.x_no, ↓TL.x_so, ↓TL.x_tof, ↓TL.x_tand, ↓TL.x_tor, ↓TL.x_tnt, ↓TL.x_tite, ↓TL.x_ctno, ↓TL.x_ctso, ↓TL.x_iof, ↓TL.x_irng1, ↓TL.x_irng2, ↓TL.x_irng3, ↓TL.x_ienum, ↓TL.x_izip, ↓TL.x_irev, ↓TL.s_asg_, ↓TL.s_par_, ↓TL.s_sub_, ↓TL.s_aug_, ↓TL.s_swp_, ↓TL.s_augs_, ↓TL.s_subW, ↓TL.s_exp_, ↓TL.s_app_, ↓TL.s_ite_, ↓TL.s_for_, ↓TL.s_whl_, ↓TL.s_retN_, ↓TL.s_brk_, ↓TL.s_cnt_, ↓TL.s_pas_, ↓TL.ss_nil_, ↓TL.ss_cons_, ↓TL.o_dc1, ↓TL.s_ret_dc1, ↓TL.o_dc2, ↓TL.s_ret_dc2, ↓TL.o_emp, ↓TL.s_ret_emp, ↓TL.o_rvs, ↓TL.s_ret_rvs, ↓TL.o_met, ↓TL.s_ret_met, ↓TL.o_lit, ↓TL.s_ret_lit, ↓TL.o_glb, ↓TL.s_ret_glb, ↓TL.o_tup, ↓TL.s_ret_tup, ↓TL.o_lst, ↓TL.s_ret_lst, ↓TL.o_bin, ↓TL.s_ret_bin, ↓TL.o_neg, ↓TL.s_ret_neg, ↓TL.o_nt, ↓TL.s_ret_nt, ↓TL.o_cmp, ↓TL.s_ret_cmp, ↓TL.o_chn, ↓TL.s_ret_chn, ↓TL.o_and, ↓TL.s_ret_and, ↓TL.o_or, ↓TL.s_ret_or, ↓TL.o_ife, ↓TL.s_ret_ife, ↓TL.o_idx, ↓TL.s_ret_idx, ↓TL.o_slc, ↓TL.s_ret_slc, ↓TL.o_call, ↓TL.s_ret_call, ↓TL.o_pcall, ↓TL.s_ret_pcall, ↓TL.o_bl1, ↓TL.s_ret_bl1, ↓TL.o_bl2, ↓TL.s_ret_bl2, ↓TL.o_isi, ↓TL.s_ret_isi, ↓TL.o_pop, ↓TL.s_ret_pop, ↓TL.o_lc, ↓TL.s_ret_lc, ↓TL.o_lc2, ↓TL.s_ret_lc2, ↓TL.o_var_, ↓TL.s_retv_, ↓TL.l_val, ↓TL.l_slot, ↓TL.tg_fz, ↓TL.tg_own, ↓TL.tg_tup, ↓TL.tg_nil, ↓TL.tg_cons, ↓TL.wv_fz, ↓TL.wv_own, ↓TL.wv_s, ↓TL.lk_fz, ↓TL.lk_own, ↓TL.lk_bor, ↓TL.lk_s, ↓TL.cs_s, ↓TL.cs_un, ↓TL.cs_fz, ↓TL.cs_own, ↓TL.hd_own, ↓TL.hd_bor, ↓TL.hd_s, ↓TL.sh_own, ↓TL.sh_bor, ↓TL.sh_s, ↓TL.st_0, ↓TL.st_s, ↓TL.fr_nil, ↓TL.fr_cons, ↓TL.wp_nil, ↓TL.wp_cons, ↓TL.bk_nil, ↓TL.bk_cons, ↓TL.b_addI, ↓TL.b_subI, ↓TL.b_mulI, ↓TL.b_divI, ↓TL.b_modI, ↓TL.b_powI, ↓TL.b_addS, ↓TL.b_addT, ↓TL.b_addL, ↓TL.b_mulL, ↓TL.b_mulT, ↓TL.a_add, ↓TL.a_sub, ↓TL.a_mul, ↓TL.c_Eq_int, ↓TL.c_Eq_bool, ↓TL.c_Eq_str, ↓TL.c_Eq_tuple, ↓TL.c_Eq_list, ↓TL.c_NotEq_int, ↓TL.c_NotEq_bool, ↓TL.c_NotEq_str, ↓TL.c_NotEq_tuple, ↓TL.c_NotEq_list, ↓TL.c_Lt, ↓TL.c_LtE, ↓TL.c_Gt, ↓TL.c_GtE, ↓TL.c_LtE_b, ↓TL.c_Is_b, ↓TL.c_Is_n, ↓TL.c_IsNot_b, ↓TL.c_IsNot_n, ↓TL.c_In_tuple, ↓TL.c_In_list, ↓TL.c_NotIn_tuple, ↓TL.c_NotIn_list, ↓TL.t_non, ↓TL.t_bl, ↓TL.t_int, ↓TL.t_str, ↓TL.t_lst, ↓TL.t_tup, ↓TL.i_lst, ↓TL.i_tup, ↓TL.sl_lst, ↓TL.sl_tup, ↓TL.as_i, ↓TL.as_b, ↓TL.it_l, ↓TL.it_t, ↓TL.ls_l, ↓TL.zp_n, ↓TL.zp_f, ↓TL.zp_s, ↓TL.rv_l, ↓TL.rv_t, ↓TL.m_sw, ↓TL.m_ew, ↓TL.m_ix, ↓TL.m_ixd, ↓TL.tm_ixd, ↓TL.tm_sw, ↓TL.tm_ew, ↓TL.tm_ix, ↓TL.c_Lt_t, ↓TL.f_lenL, ↓TL.f_lenT, ↓TL.f_lenS, ↓TL.f_abs, ↓TL.f_min, ↓TL.f_max, ↓TL.f_sum, ↓TL.f_all, ↓TL.f_any, ↓TL.f_sort, ↓TL.f_ssetL, ↓TL.f_ssetT, ↓TL.f_trng, ↓TL.f_denL, ↓TL.f_denT, ↓TL.f_tupL, ↓TL.f_tupT, ↓TL.f_lstL, ↓TL.f_lstT, ↓TL.f_intI, ↓TL.f_intB, ↓TL.f_str, ↓TL.g_min, ↓TL.g_max, ↓TL.rd_fz, ↓TL.rd_own, ↓TL.rs_fz, ↓TL.rs_own, ↓TL.ou_b, ↓TL.at_l0, ↓TL.at_l1, ↓TL.at_l2, ↓TL.at_l3, ↓TL.at_l4, ↓TL.at_l5, ↓TL.at_l6, ↓TL.at_l7, ↓TL.ix_l0, ↓TL.ix_l1, ↓TL.ix_l2, ↓TL.ix_l3, ↓TL.ix_l4, ↓TL.ix_l5, ↓TL.ix_l6, ↓TL.ix_l7, ↓TL.ix_l8, ↓TL.ix_l9, ↓TL.ix_l10, ↓TL.ix_l11, ↓TL.ix_l12, TL.isStr, TL.flatD, TL.inD, TL.isiD, TL.tyD, TL.isNone, TL.eqv_int, TL.eqv_bool, TL.eqv_str, TL.sh_int, TL.sh_bool, TL.sz_le, TL.sz_lt, TL.Sl.held, List.map_cons, List.map_nil, List.cons_append, List.nil_append, List.append_nil, List.length_cons, List.length_nil, List.length_map, List.length_set, List.set_cons_zero, List.set_cons_succ, Nat.reduceLT, List.all_cons, List.all_nil, List.any_cons, List.any_nil, List.zip_cons_cons, List.zip_nil_left, List.zip_nil_right, List.foldl_cons, List.foldl_nil, List.getD_cons_zero, List.getD_cons_succ, List.mem_cons, List.not_mem_nil, forall_eq_or_imp, forall_eq, or_false, false_or, true_or, or_true, true_and, and_true, false_and, and_false, false_implies, implies_true, forall_const, ↓reduceIte, if_true, if_false, Bool.false_eq_true, Bool.true_and, Bool.and_true, Bool.false_and, Bool.and_false, Bool.or_false, Bool.false_or, Bool.or_true, Bool.true_or, Bool.not_true, Bool.not_false, Bool.and_eq_true, Bool.or_eq_true, Bool.not_eq_true', decide_eq_true_eq, decide_eq_false_iff_not, ne_eq, not_false_eq_true, not_true_eq_false, reduceCtorEq, decide_true, decide_false, Nat.reduceAdd, Nat.reduceLeDiff, Nat.reduceEqDiff, TL.all_isInt, TL.map_intOf, TL.all_isBool, TL.map_boolOf, TL.take_ints, TL.drop_ints, List.take_succ_cons, List.take_zero, List.drop_succ_cons, List.drop_zero, List.take_nil, List.drop_nil, TL.fmod_n, TL.fdiv_n, TL.cut_to, TL.cut_from, TL.cut_mid, Int.reduceEq, Int.reduceNe, Int.reduceNeg, Int.reduceAdd, Int.reduceMul, Int.reduceSub, Int.reduceLT, Int.reduceLE, Int.reduceGT, Int.reduceGE, Int.reducePow, Int.reduceToNat, Int.add_zero, Int.zero_add, String.reduceEq, String.reduceBEq]
      refine law_date_ok (n + 1) l hl _ fun v' e' => ?_
      simp only [dt, ↓TL.x_var, ↓TL.x_lit, ↓TL.x_glb, ↓TL.x_tup, ↓TL.x_lst, ↓TL.x_emp, ↓TL.x_rvs, ↓TL.x_met, ↓TL.x_dc1, ↓TL.x_dc2, ↓TL.x_bin, ↓TL.x_neg, ↓TL.x_nt, ↓TL.x_cmp, ↓TL.x_chn, ↓TL.x_and, ↓TL.x_or, ↓TL.x_ife, ↓TL.x_idx, ↓TL.x_slc, ↓TL.x_call, ↓TL.x_pcall, ↓TL.x_bl1, ↓TL.x_bl2, ↓TL.x_isi, ↓TL.x_pop, ↓TL.x_lc, ↓TL.x_lc2, ↓TL.x_nil, ↓TL.x_cons, ↓TL.x_no, ↓TL.x_so, ↓TL.x_tof, ↓TL.x_tand, ↓TL.x_tor, ↓TL.x_tnt, ↓TL.x_tite, ↓TL.x_ctno, ↓TL.x_ctso, ↓TL.x_iof, ↓TL.x_irng1, ↓TL.x_irng2, ↓TL.x_irng3, ↓TL.x_ienum, ↓TL.x_izip, ↓TL.x_irev, ↓TL.s_asg_, ↓TL.s_par_, ↓TL.s_sub_, ↓TL.s_aug_, ↓TL.s_swp_, ↓TL.s_augs_, ↓TL.s_subW, ↓TL.s_exp_, ↓TL.s_app_, ↓TL.s_ite_, ↓TL.s_for_, ↓TL.s_whl_, ↓TL.s_retN_, ↓TL.s_brk_, ↓TL.s_cnt_, ↓TL.s_pas_, ↓TL.ss_nil_, ↓TL.ss_cons_, ↓TL.o_dc1, ↓TL.s_ret_dc1, ↓TL.o_dc2, ↓TL.s_ret_dc2, ↓TL.o_emp, ↓TL.s_ret_emp, ↓TL.o_rvs, ↓TL.s_ret_rvs, ↓TL.o_met, ↓TL.s_ret_met, ↓TL.o_lit, ↓TL.s_ret_lit, ↓TL.o_glb, ↓TL.s_ret_glb, ↓TL.o_tup, ↓TL.s_ret_tup, ↓TL.o_lst, ↓TL.s_ret_lst, ↓TL.o_bin, ↓TL.s_ret_bin, ↓TL.o_neg, ↓TL.s_ret_neg, ↓TL.o_nt, ↓TL.s_ret_nt, ↓TL.o_cmp, ↓TL.s_ret_cmp, ↓TL.o_chn, ↓TL.s_ret_chn, ↓TL.o_and, ↓TL.s_ret_and, ↓TL.o_or, ↓TL.s_ret_or, ↓TL.o_ife, ↓TL.s_ret_ife, ↓TL.o_idx, ↓TL.s_ret_idx, ↓TL.o_slc, ↓TL.s_ret_slc, ↓TL.o_call, ↓TL.s_ret_call, ↓TL.o_pcall, ↓TL.s_ret_pcall, ↓TL.o_bl1, ↓TL.s_ret_bl1, ↓TL.o_bl2, ↓TL.s_ret_bl2, ↓TL.o_isi, ↓TL.s_ret_isi, ↓TL.o_pop, ↓TL.s_ret_pop, ↓TL.o_lc, ↓TL.s_ret_lc, ↓TL.o_lc2, ↓TL.s_ret_lc2, ↓TL.o_var_, ↓TL.s_retv_, ↓TL.l_val, ↓TL.l_slot, ↓TL.tg_fz, ↓TL.tg_own, ↓TL.tg_tup, ↓TL.tg_nil, ↓TL.tg_cons, ↓TL.wv_fz, ↓TL.wv_own, ↓TL.wv_s, ↓TL.lk_fz, ↓TL.lk_own, ↓TL.lk_bor, ↓TL.lk_s, ↓TL.cs_s, ↓TL.cs_un, ↓TL.cs_fz, ↓TL.cs_own, ↓TL.hd_own, ↓TL.hd_bor, ↓TL.hd_s, ↓TL.sh_own, ↓TL.sh_bor, ↓TL.sh_s, ↓TL.st_0, ↓TL.st_s, ↓TL.fr_nil, ↓TL.fr_cons, ↓TL.wp_nil, ↓TL.wp_cons, ↓TL.bk_nil, ↓TL.bk_cons, ↓TL.b_addI, ↓TL.b_subI, ↓TL.b_mulI, ↓TL.b_divI, ↓TL.b_modI, ↓TL.b_powI, ↓TL.b_addS, ↓TL.b_addT, ↓TL.b_addL, ↓TL.b_mulL, ↓TL.b_mulT, ↓TL.a_add, ↓TL.a_sub, ↓TL.a_mul, ↓TL.c_Eq_int, ↓TL.c_Eq_bool, ↓TL.c_Eq_str, ↓TL.c_Eq_tuple, ↓TL.c_Eq_list, ↓TL.c_NotEq_int, ↓TL.c_NotEq_bool, ↓TL.c_NotEq_str, ↓TL.c_NotEq_tuple, ↓TL.c_NotEq_list, ↓TL.c_Lt, ↓TL.c_LtE, ↓TL.c_Gt, ↓TL.c_GtE, ↓TL.c_LtE_b, ↓TL.c_Is_b, ↓TL.c_Is_n, ↓TL.c_IsNot_b, ↓TL.c_IsNot_n, ↓TL.c_In_tuple, ↓TL.c_In_list, ↓TL.c_NotIn_tuple, ↓TL.c_NotIn_list, ↓TL.t_non, ↓TL.t_bl, ↓TL.t_int, ↓TL.t_str, ↓TL.t_lst, ↓TL.t_tup, ↓TL.i_lst, ↓TL.i_tup, ↓TL.sl_lst, ↓TL.sl_tup, ↓TL.as_i, ↓TL.as_b, ↓TL.it_l, ↓TL.it_t, ↓TL.ls_l, ↓TL.zp_n, ↓TL.zp_f, ↓TL.zp_s, ↓TL.rv_l, ↓TL.rv_t, ↓TL.m_sw, ↓TL.m_ew, ↓TL.m_ix, ↓TL.m_ixd, ↓TL.tm_ixd, ↓TL.tm_sw, ↓TL.tm_ew, ↓TL.tm_ix, ↓TL.c_Lt_t, ↓TL.f_lenL, ↓TL.f_lenT, ↓TL.f_lenS, ↓TL.f_abs, ↓TL.f_min, ↓TL.f_max, ↓TL.f_sum, ↓TL.f_all, ↓TL.f_any, ↓TL.f_sort, ↓TL.f_ssetL, ↓TL.f_ssetT, ↓TL.f_trng, ↓TL.f_denL, ↓TL.f_denT, ↓TL.f_tupL, ↓TL.f_tupT, ↓TL.f_lstL, ↓TL.f_lstT, ↓TL.f_intI, ↓TL.f_intB, ↓TL.f_str, ↓TL.g_min, ↓TL.g_max, ↓TL.rd_fz, ↓TL.rd_own, ↓TL.rs_fz, ↓TL.rs_own, ↓TL.ou_b, ↓TL.at_l0, ↓TL.at_l1, ↓TL.at_l2, ↓TL.at_l3, ↓TL.at_l4, ↓TL.at_l5, ↓TL.at_l6, ↓TL.at_l7, ↓TL.ix_l0, ↓TL.ix_l1, ↓TL.ix_l2, ↓TL.ix_l3, ↓TL.ix_l4, ↓TL.ix_l5, ↓TL.ix_l6, ↓TL.ix_l7, ↓TL.ix_l8, ↓TL.ix_l9, ↓TL.ix_l10, ↓TL.ix_l11, ↓TL.ix_l12, TL.isStr, TL.flatD, TL.inD, TL.isiD, TL.tyD, TL.isNone, TL.eqv_int, TL.eqv_bool, TL.eqv_str, TL.sh_int, TL.sh_bool, TL.sz_le, TL.sz_lt, TL.Sl.held, List.map_cons, List.map_nil, List.cons_append, List.nil_append, List.append_nil, List.length_cons, List.length_nil, List.length_map, List.length_set, List.set_cons_zero, List.set_cons_succ, Nat.reduceLT, List.all_cons, List.all_nil, List.any_cons, List.any_nil, List.zip_cons_cons, List.zip_nil_left, List.zip_nil_right, List.foldl_cons, List.foldl_nil, List.getD_cons_zero, List.getD_cons_succ, List.mem_cons, List.not_mem_nil, forall_eq_or_imp, forall_eq, or_false, false_or, true_or, or_true, true_and, and_true, false_and, and_false, false_implies, implies_true, forall_const, ↓reduceIte, if_true, if_false, Bool.false_eq_true, Bool.true_and, Bool.and_true, Bool.false_and, Bool.and_false, Bool.or_false, Bool.false_or, Bool.or_true, Bool.true_or, Bool.not_true, Bool.not_false, Bool.and_eq_true, Bool.or_eq_true, Bool.not_eq_true', decide_eq_true_eq, decide_eq_false_iff_not, ne_eq, not_false_eq_true, not_true_eq_false, reduceCtorEq, decide_true, decide_false, Nat.reduceAdd, Nat.reduceLeDiff, Nat.reduceEqDiff, TL.all_isInt, TL.map_intOf, TL.all_isBool, TL.map_boolOf, TL.take_ints, TL.drop_ints, List.take_succ_cons, List.take_zero, List.drop_succ_cons, List.drop_zero, List.take_nil, List.drop_nil, TL.fmod_n, TL.fdiv_n, TL.cut_to, TL.cut_from, TL.cut_mid, Int.reduceEq, Int.reduceNe, Int.reduceNeg, Int.reduceAdd, Int.reduceMul, Int.reduceSub, Int.reduceLT, Int.reduceLE, Int.reduceGT, Int.reduceGE, Int.reducePow, Int.reduceToNat, Int.add_zero, Int.zero_add, String.reduceEq, String.reduceBEq, min_if]
      have m1 : TL.MulOk 360 (dY l - dY f) := mok (by decide) (by decide) (by have := v.y0; have := v'.y0; have := v.y1; have := v'.y1; omega) (by have := v.y0; have := v'.y0; have := v.y1; have := v'.y1; omega)
      have m2 : TL.MulOk 30 (dM l - dM f) := mok (by decide) (by decide) (by have := v.m0; have := v'.m0; have := v.m1; have := v'.m1; omega) (by have := v.m0; have := v'.m0; have := v.m1; have := v'.m1; omega)
      have bs := bym_sz (e := decide (w = "30E/360")) v v'
      have p31 := v'.p31
      by_cases h3 : w = "30E/360"
      · simp only [h3, ↓TL.x_var, ↓TL.x_lit, ↓TL.x_glb, ↓TL.x_tup, ↓TL.x_lst, ↓TL.x_emp, ↓TL.x_rvs, ↓TL.x_met, ↓TL.x_dc1, ↓TL.x_dc2, ↓TL.x_bin, ↓TL.x_neg, ↓TL.x_nt, ↓TL.x_cmp, ↓TL.x_chn, ↓TL.x_and, ↓TL.x_or, ↓TL.x_ife, ↓TL.x_idx, ↓TL.x_slc, ↓TL.x_call, ↓TL.x_pcall, ↓TL.x_bl1, ↓TL.x_bl2, ↓TL.x_isi, ↓TL.x_pop, ↓TL.x_lc, ↓TL.x_lc2, ↓TL.x_nil, ↓TL.x_cons, ↓TL.x_no, ↓TL.x_so, ↓TL.x_tof, ↓TL.x_tand, ↓TL.x_tor, ↓TL.x_tnt, ↓TL.x_tite, ↓TL.x_ctno, ↓TL.x_ctso, ↓TL.x_iof, ↓TL.x_irng1, ↓TL.x_irng2, ↓TL.x_irng3, ↓TL.x_ienum, ↓TL.x_izip, ↓TL.x_irev, ↓TL.s_asg_, ↓TL.s_par_, ↓TL.s_sub_, ↓TL.s_aug_, ↓TL.s_swp_, ↓TL.s_augs_, ↓TL.s_subW, ↓TL.s_exp_, ↓TL.s_app_, ↓TL.s_ite_, ↓TL.s_for_, ↓TL.s_whl_, ↓TL.s_retN_, ↓TL.s_brk_, ↓TL.s_cnt_, ↓TL.s_pas_, ↓TL.ss_nil_, ↓TL.ss_cons_, ↓TL.o_dc1, ↓TL.s_ret_dc1, ↓TL.o_dc2, ↓TL.s_ret_dc2, ↓TL.o_emp, ↓TL.s_ret_emp, ↓TL.o_rvs, ↓TL.s_ret_rvs, ↓TL.o_met, ↓TL.s_ret_met, ↓TL.o_lit, ↓TL.s_ret_lit, ↓TL.o_glb, ↓TL.s_ret_glb, ↓TL.o_tup, ↓TL.s_ret_tup, ↓TL.o_lst, ↓TL.s_ret_lst, ↓TL.o_bin, ↓TL.s_ret_bin, ↓TL.o_neg, ↓TL.s_ret_neg, ↓TL.o_nt, ↓TL.s_ret_nt, ↓TL.o_cmp, ↓TL.s_ret_cmp, ↓TL.o_chn, ↓TL.s_ret_chn, ↓TL.o_and, ↓TL.s_ret_and, ↓TL.o_or, ↓TL.s_ret_or, ↓TL.o_ife, ↓TL.s_ret_ife, ↓TL.o_idx, ↓TL.s_ret_idx, ↓TL.o_slc, ↓TL.s_ret_slc, ↓TL.o_call, ↓TL.s_ret_call, ↓TL.o_pcall, ↓TL.s_ret_pcall, ↓TL.o_bl1, ↓TL.s_ret_bl1, ↓TL.o_bl2, ↓TL.s_ret_bl2, ↓TL.o_isi, ↓TL.s_ret_isi, ↓TL.o_pop, ↓TL.s_ret_pop, ↓TL.o_lc, ↓TL.s_ret_lc, ↓TL.o_lc2, ↓TL.s_ret_lc2, ↓TL.o_var_, ↓TL.s_retv_, ↓TL.l_val, ↓TL.l_slot, ↓TL.tg_fz, ↓TL.tg_own, ↓TL.tg_tup, ↓TL.tg_nil, ↓TL.tg_cons, ↓TL.wv_fz, ↓TL.wv_own, ↓TL.wv_s, ↓TL.lk_fz, ↓TL.lk_own, ↓TL.lk_bor, ↓TL.lk_s, ↓TL.cs_s, ↓TL.cs_un, ↓TL.cs_fz, ↓TL.cs_own, ↓TL.hd_own, ↓TL.hd_bor, ↓TL.hd_s, ↓TL.sh_own, ↓TL.sh_bor, ↓TL.sh_s, ↓TL.st_0, ↓TL.st_s, ↓TL.fr_nil, ↓TL.fr_cons, ↓TL.wp_nil, ↓TL.wp_cons, ↓TL.bk_nil, ↓TL.bk_cons, ↓TL.b_addI, ↓TL.b_subI, ↓TL.b_mulI, ↓TL.b_divI, ↓TL.b_modI, ↓TL.b_powI, ↓TL.b_addS, ↓TL.b_addT, ↓TL.b_addL, ↓TL.b_mulL, ↓TL.b_mulT, ↓TL.a_add, ↓TL.a_sub, ↓TL.a_mul, ↓TL.c_Eq_int, ↓TL.c_Eq_bool, ↓TL.c_Eq_str, ↓TL.c_Eq_tuple, ↓TL.c_Eq_list, ↓TL.c_NotEq_int, ↓TL.c_NotEq_bool, ↓TL.c_NotEq_str, ↓TL.c_NotEq_tuple, ↓TL.c_NotEq_list, ↓TL.c_Lt, ↓TL.c_LtE, ↓TL.c_Gt, ↓TL.c_GtE, ↓TL.c_LtE_b, ↓TL.c_Is_b, ↓TL.c_Is_n, ↓TL.c_IsNot_b, ↓TL.c_IsNot_n, ↓TL.c_In_tuple, ↓TL.c_In_list, ↓TL.c_NotIn_tuple, ↓TL.c_NotIn_list, ↓TL.t_non, ↓TL.t_bl, ↓TL.t_int, ↓TL.t_str, ↓TL.t_lst, ↓TL.t_tup, ↓TL.i_lst, ↓TL.i_tup, ↓TL.sl_lst, ↓TL.sl_tup, ↓TL.as_i, ↓TL.as_b, ↓TL.it_l, ↓TL.it_t, ↓TL.ls_l, ↓TL.zp_n, ↓TL.zp_f, ↓TL.zp_s, ↓TL.rv_l, ↓TL.rv_t, ↓TL.m_sw, ↓TL.m_ew, ↓TL.m_ix, ↓TL.m_ixd, ↓TL.tm_ixd, ↓TL.tm_sw, ↓TL.tm_ew, ↓TL.tm_ix, ↓TL.c_Lt_t, ↓TL.f_lenL, ↓TL.f_lenT, ↓TL.f_lenS, ↓TL.f_abs, ↓TL.f_min, ↓TL.f_max, ↓TL.f_sum, ↓TL.f_all, ↓TL.f_any, ↓TL.f_sort, ↓TL.f_ssetL, ↓TL.f_ssetT, ↓TL.f_trng, ↓TL.f_denL, ↓TL.f_denT, ↓TL.f_tupL, ↓TL.f_tupT, ↓TL.f_lstL, ↓TL.f_lstT, ↓TL.f_intI, ↓TL.f_intB, ↓TL.f_str, ↓TL.g_min, ↓TL.g_max, ↓TL.rd_fz, ↓TL.rd_own, ↓TL.rs_fz, ↓TL.rs_own, ↓TL.ou_b, ↓TL.at_l0, ↓TL.at_l1, ↓TL.at_l2, ↓TL.at_l3, ↓TL.at_l4, ↓TL.at_l5, ↓TL.at_l6, ↓TL.at_l7, ↓TL.ix_l0, ↓TL.ix_l1, ↓TL.ix_l2, ↓TL.ix_l3, ↓TL.ix_l4, ↓TL.ix_l5, ↓TL.ix_l6, ↓TL.ix_l7, ↓TL.ix_l8, ↓TL.ix_l9, ↓TL.ix_l10, ↓TL.ix_l11, ↓TL.ix_l12, TL.isStr, TL.flatD, TL.inD, TL.isiD, TL.tyD, TL.isNone, TL.eqv_int, TL.eqv_bool, TL.eqv_str, TL.sh_int, TL.sh_bool, TL.sz_le, TL.sz_lt, TL.Sl.held, List.map_cons, List.map_nil, List.cons_append, List.nil_append, List.append_nil, List.length_cons, List.length_nil, List.length_map, List.length_set, List.set_cons_zero, List.set_cons_succ, Nat.reduceLT, List.all_cons, List.all_nil, List.any_cons, List.any_nil, List.zip_cons_cons, List.zip_nil_left, List.zip_nil_right, List.foldl_cons, List.foldl_nil, List.getD_cons_zero, List.getD_cons_succ, List.mem_cons, List.not_mem_nil, forall_eq_or_imp, forall_eq, or_false, false_or, true_or, or_true, true_and, and_true, false_and, and_false, false_implies, implies_true, forall_const, ↓reduceIte, if_true, if_false, Bool.false_eq_true, Bool.true_and, Bool.and_true, Bool.false_and, Bool.and_false, Bool.or_false, Bool.false_or, Bool.or_true, Bool.true_or, Bool.not_true, Bool.not_false, Bool.and_eq_true, Bool.or_eq_true, Bool.not_eq_true', decide_eq_true_eq, decide_eq_false_iff_not, ne_eq, not_false_eq_true, not_true_eq_false, reduceCtorEq, decide_true, decide_false, Nat.reduceAdd, Nat.reduceLeDiff, Nat.reduceEqDiff, TL.all_isInt, TL.map_intOf, TL.all_isBool, TL.map_boolOf, TL.take_ints, TL.drop_ints, List.take_succ_cons, List.take_zero, List.drop_succ_cons, List.drop_zero, List.take_nil, List.drop_nil, TL.fmod_n, TL.fdiv_n, TL.cut_to, TL.cut_from, TL.cut_mid, Int.reduceEq, Int.reduceNe, Int.reduceNeg, Int.reduceAdd, Int.reduceMul, Int.reduceSub, Int.reduceLT, Int.reduceLE, Int.reduceGT, Int.reduceGE, Int.reducePow, Int.reduceToNat, Int.add_zero, Int.zero_add, String.reduceEq, String.reduceBEq] at q bs ⊢
        refine ⟨m1, m2, law_fractionP_ok (n + 2) _ _ ?_ s360 (by decide) (by decide) _ ?_⟩
        · simpa [bym] using bs
        · simpa [bym] using q
      · simp only [h3, ↓TL.x_var, ↓TL.x_lit, ↓TL.x_glb, ↓TL.x_tup, ↓TL.x_lst, ↓TL.x_emp, ↓TL.x_rvs, ↓TL.x_met, ↓TL.x_dc1, ↓TL.x_dc2, ↓TL.x_bin, ↓TL.x_neg, ↓TL.x_nt, ↓TL.x_cmp, ↓TL.x_chn, ↓TL.x_and, ↓TL.x_or, ↓TL.x_ife, ↓TL.x_idx, ↓TL.x_slc, ↓TL.x_call, ↓TL.x_pcall, ↓TL.x_bl1, ↓TL.x_bl2, ↓TL.x_isi, ↓TL.x_pop, ↓TL.x_lc, ↓TL.x_lc2, ↓TL.x_nil, ↓TL.x_cons, ↓TL.x_no, ↓TL.x_so, ↓TL.x_tof, ↓TL.x_tand, ↓TL.x_tor, ↓TL.x_tnt, ↓TL.x_tite, ↓TL.x_ctno, ↓TL.x_ctso, ↓TL.x_iof, ↓TL.x_irng1, ↓TL.x_irng2, ↓TL.x_irng3, ↓TL.x_ienum, ↓TL.x_izip, ↓TL.x_irev, ↓TL.s_asg_, ↓TL.s_par_, ↓TL.s_sub_, ↓TL.s_aug_, ↓TL.s_swp_, ↓TL.s_augs_, ↓TL.s_subW, ↓TL.s_exp_, ↓TL.s_app_, ↓TL.s_ite_, ↓TL.s_for_, ↓TL.s_whl_, ↓TL.s_retN_, ↓TL.s_brk_, ↓TL.s_cnt_, ↓TL.s_pas_, ↓TL.ss_nil_, ↓TL.ss_cons_, ↓TL.o_dc1, ↓TL.s_ret_dc1, ↓TL.o_dc2, ↓TL.s_ret_dc2, ↓TL.o_emp, ↓TL.s_ret_emp, ↓TL.o_rvs, ↓TL.s_ret_rvs, ↓TL.o_met, ↓TL.s_ret_met, ↓TL.o_lit, ↓TL.s_ret_lit, ↓TL.o_glb, ↓TL.s_ret_glb, ↓TL.o_tup, ↓TL.s_ret_tup, ↓TL.o_lst, ↓TL.s_ret_lst, ↓TL.o_bin, ↓TL.s_ret_bin, ↓TL.o_neg, ↓TL.s_ret_neg, ↓TL.o_nt, ↓TL.s_ret_nt, ↓TL.o_cmp, ↓TL.s_ret_cmp, ↓TL.o_chn, ↓TL.s_ret_chn, ↓TL.o_and, ↓TL.s_ret_and, ↓TL.o_or, ↓TL.s_ret_or, ↓TL.o_ife, ↓TL.s_ret_ife, ↓TL.o_idx, ↓TL.s_ret_idx, ↓TL.o_slc, ↓TL.s_ret_slc, ↓TL.o_call, ↓TL.s_ret_call, ↓TL.o_pcall, ↓TL.s_ret_pcall, ↓TL.o_bl1, ↓TL.s_ret_bl1, ↓TL.o_bl2, ↓TL.s_ret_bl2, ↓TL.o_isi, ↓TL.s_ret_isi, ↓TL.o_pop, ↓TL.s_ret_pop, ↓TL.o_lc, ↓TL.s_ret_lc, ↓TL.o_lc2, ↓TL.s_ret_lc2, ↓TL.o_var_, ↓TL.s_retv_, ↓TL.l_val, ↓TL.l_slot, ↓TL.tg_fz, ↓TL.tg_own, ↓TL.tg_tup, ↓TL.tg_nil, ↓TL.tg_cons, ↓TL.wv_fz, ↓TL.wv_own, ↓TL.wv_s, ↓TL.lk_fz, ↓TL.lk_own, ↓TL.lk_bor, ↓TL.lk_s, ↓TL.cs_s, ↓TL.cs_un, ↓TL.cs_fz, ↓TL.cs_own, ↓TL.hd_own, ↓TL.hd_bor, ↓TL.hd_s, ↓TL.sh_own, ↓TL.sh_bor, ↓TL.sh_s, ↓TL.st_0, ↓TL.st_s, ↓TL.fr_nil, ↓TL.fr_cons, ↓TL.wp_nil, ↓TL.wp_cons, ↓TL.bk_nil, ↓TL.bk_cons, ↓TL.b_addI, ↓TL.b_subI, ↓TL.b_mulI, ↓TL.b_divI, ↓TL.b_modI, ↓TL.b_powI, ↓TL.b_addS, ↓TL.b_addT, ↓TL.b_addL, ↓TL.b_mulL, ↓TL.b_mulT, ↓TL.a_add, ↓TL.a_sub, ↓TL.a_mul, ↓TL.c_Eq_int, ↓TL.c_Eq_bool, ↓TL.c_Eq_str, ↓TL.c_Eq_tuple, ↓TL.c_Eq_list, ↓TL.c_NotEq_int, ↓TL.c_NotEq_bool, ↓TL.c_NotEq_str, ↓TL.c_NotEq_tuple, ↓TL.c_NotEq_list, ↓TL.c_Lt, ↓TL.c_LtE, ↓TL.c_Gt, ↓TL.c_GtE, ↓TL.c_LtE_b, ↓TL.c_Is_b, ↓TL.c_Is_n, ↓TL.c_IsNot_b, ↓TL.c_IsNot_n, ↓TL.c_In_tuple, ↓TL.c_In_list, ↓TL.c_NotIn_tuple, ↓TL.c_NotIn_list, ↓TL.t_non, ↓TL.t_bl, ↓TL.t_int, ↓TL.t_str, ↓TL.t_lst, ↓TL.t_tup, ↓TL.i_lst, ↓TL.i_tup, ↓TL.sl_lst, ↓TL.sl_tup, ↓TL.as_i, ↓TL.as_b, ↓TL.it_l, ↓TL.it_t, ↓TL.ls_l, ↓TL.zp_n, ↓TL.zp_f, ↓TL.zp_s, ↓TL.rv_l, ↓TL.rv_t, ↓TL.m_sw, ↓TL.m_ew, ↓TL.m_ix, ↓TL.m_ixd, ↓TL.tm_ixd, ↓TL.tm_sw, ↓TL.tm_ew, ↓TL.tm_ix, ↓TL.c_Lt_t, ↓TL.f_lenL, ↓TL.f_lenT, ↓TL.f_lenS, ↓TL.f_abs, ↓TL.f_min, ↓TL.f_max, ↓TL.f_sum, ↓TL.f_all, ↓TL.f_any, ↓TL.f_sort, ↓TL.f_ssetL, ↓TL.f_ssetT, ↓TL.f_trng, ↓TL.f_denL, ↓TL.f_denT, ↓TL.f_tupL, ↓TL.f_tupT, ↓TL.f_lstL, ↓TL.f_lstT, ↓TL.f_intI, ↓TL.f_intB, ↓TL.f_str, ↓TL.g_min, ↓TL.g_max, ↓TL.rd_fz, ↓TL.rd_own, ↓TL.rs_fz, ↓TL.rs_own, ↓TL.ou_b, ↓TL.at_l0, ↓TL.at_l1, ↓TL.at_l2, ↓TL.at_l3, ↓TL.at_l4, ↓TL.at_l5, ↓TL.at_l6, ↓TL.at_l7, ↓TL.ix_l0, ↓TL.ix_l1, ↓TL.ix_l2, ↓TL.ix_l3, ↓TL.ix_l4, ↓TL.ix_l5, ↓TL.ix_l6, ↓TL.ix_l7, ↓TL.ix_l8, ↓TL.ix_l9, ↓TL.ix_l10, ↓TL.ix_l11, ↓TL.ix_l12, TL.isStr, TL.flatD, TL.inD, TL.isiD, TL.tyD, TL.isNone, TL.eqv_int, TL.eqv_bool, TL.eqv_str, TL.sh_int, TL.sh_bool, TL.sz_le, TL.sz_lt, TL.Sl.held, List.map_cons, List.map_nil, List.cons_append, List.nil_append, List.append_nil, List.length_cons, List.length_nil, List.length_map, List.length_set, List.set_cons_zero, List.set_cons_succ, Nat.reduceLT, List.all_cons, List.all_nil, List.any_cons, List.any_nil, List.zip_cons_cons, List.zip_nil_left, List.zip_nil_right, List.foldl_cons, List.foldl_nil, List.getD_cons_zero, List.getD_cons_succ, List.mem_cons, List.not_mem_nil, forall_eq_or_imp, forall_eq, or_false, false_or, true_or, or_true, true_and, and_true, false_and, and_false, false_implies, implies_true, forall_const, ↓reduceIte, if_true, if_false, Bool.false_eq_true, Bool.true_and, Bool.and_true, Bool.false_and, Bool.and_false, Bool.or_false, Bool.false_or, Bool.or_true, Bool.true_or, Bool.not_true, Bool.not_false, Bool.and_eq_true, Bool.or_eq_true, Bool.not_eq_true', decide_eq_true_eq, decide_eq_false_iff_not, ne_eq, not_false_eq_true, not_true_eq_false, reduceCtorEq, decide_true, decide_false, Nat.reduceAdd, Nat.reduceLeDiff, Nat.reduceEqDiff, TL.all_isInt, TL.map_intOf, TL.all_isBool, TL.map_boolOf, TL.take_ints, TL.drop_ints, List.take_succ_cons, List.take_zero, List.drop_succ_cons, List.drop_zero, List.take_nil, List.drop_nil, TL.fmod_n, TL.fdiv_n, TL.cut_to, TL.cut_from, TL.cut_mid, Int.reduceEq, Int.reduceNe, Int.reduceNeg, Int.reduceAdd, Int.reduceMul, Int.reduceSub, Int.reduceLT, Int.reduceLE, Int.reduceGT, Int.reduceGE, Int.reducePow, Int.reduceToNat, Int.add_zero, Int.zero_add, String.reduceEq, String.reduceBEq] at q bs ⊢
        have fin : ∀ z : Int, z = bym false f l → TL.MulOk 360 (dY l - dY f) ∧ TL.MulOk 30 (dM l - dM f) ∧ run tb.G pr (n + 4) "_law_fraction" [.int z, .int 360] fun r x => Q r [] := fun z hz => by
          rw [hz]
          exact ⟨m1, m2, law_fractionP_ok (n + 2) _ _ bs s360 (by decide) (by decide) _ q⟩
        have ub : bym false f l = 360 * (dY l - dY f) + 30 * (dM l - dM f) + (if min (dD f) 30 = 30 then min (dD l) 30 else dD l) - min (dD f) 30 := by
          unfold bym
          simp only [Bool.false_eq_true, false_or]
        split
        · split
          · refine fin _ ?_
            rw [ub, if_pos (by assumption)]; omega
          · refine fin _ ?_
            rw [ub, if_neg (by assumption)]
        · refine fin _ ?_
          rw [ub]
          split <;> omega
theorem cnt_sz' {w : Str} {f l : Int} (hf : InD f) (hl : InD l) : RS 18 (cnt w f l) := cnt_sz hf hl (date_ex f hf).1 (date_ex l hl).1
theorem cnt_self (w : Str) (l : Int) : cnt w l l = 0 := by
  have z : ∀ b : Int, Rat.divInt 0 b = 0 := fun b => by rw [Rat.divInt_eq_div]; simp [Rat.div_def]
  unfold cnt
  rw [Int.sub_self, z, z]
  split
  · rfl
  · split
    · rfl
    · have : bym (decide (w = "30E/360")) l l = 0 := by unfold bym; split <;> omega
      rw [this, z]
theorem cnt_add (w : Str) (f h l : Int) (hw : w = "actual/360" ∨ w = "actual/365" ∨ w = "30E/360") : cnt w f h + cnt w h l = cnt w f l := by
  have add : ∀ a b c d : Int, d ≠ 0 → a + b = c → Rat.divInt a d + Rat.divInt b d = Rat.divInt c d := fun a b c d hd e => by
    subst e
    rw [Rat.divInt_eq_div, Rat.divInt_eq_div, Rat.divInt_eq_div, Rat.intCast_add]
    grind
  unfold cnt
  rcases hw with rfl | rfl | rfl
  · simp only [if_true]
    exact add _ _ _ _ (by decide) (by omega)
  · simp only [show ¬(("actual/365" : Str) = "actual/360") by decide, if_false, if_true]
    exact add _ _ _ _ (by decide) (by omega)
  · simp only [show ¬(("30E/360" : Str) = "actual/360") by decide, show ¬(("30E/360" : Str) = "actual/365") by decide, if_false, decide_true]
    refine add _ _ _ _ (by decide) ?_
    unfold bym
    simp only [true_or, if_true]
    omega
theorem law_words_ok (n : Nat) (Q : RV → List D → Prop) (q : Q (.own [.str "actual/360", .str "actual/365", .str "30/360", .str "30E/360"]) []) : run tb.G pr (n + 1) "_law_words" [] Q := by
  rw [e_law_words]; unfold b_law_words
  walk_at "S"
  exact q
/-- the earliest day at which the counts do not add up -/
def Brk (w : Str) (f l a b : Int) (r : D) : Prop := (r = .none ∧ ∀ d, a ≤ d → d < b → cnt w f d + cnt w d l = cnt w f l) ∨ ∃ d, r = .int d ∧ a ≤ d ∧ d < b ∧ cnt w f d + cnt w d l ≠ cnt w f l ∧ ∀ e, a ≤ e → e < d → cnt w f e + cnt w e l = cnt w f l
theorem Brk.one {w : Str} {f l a b : Int} {r s : D} (h : Brk w f l a b r) (g : Brk w f l a b s) : r = s := by
  rcases h with ⟨rfl, h⟩ | ⟨d, rfl, d0, d1, h1, h2⟩
  · rcases g with ⟨rfl, g⟩ | ⟨e, rfl, e0, e1, g1, g2⟩
    · rfl
    · exact absurd (h e e0 e1) g1
  · rcases g with ⟨rfl, g⟩ | ⟨e, rfl, e0, e1, g1, g2⟩
    · exact absurd (g d d0 d1) h1
    · rcases Int.lt_trichotomy d e with z | z | z
      · exact absurd (g2 d d0 z) h1
      · rw [z]
      · exact absurd (h2 e e0 z) g1
end Pr
end
section
namespace Pr
open PySem TL
/-- trees of a known width: their shown text is short -/
def ShD (z : Nat) : List Nat → D → Prop
  | _, .none => True
  | _, .bool _ => True
  | _, .int a => a.natAbs < 2 ^ z
  | _, .str s => s.cps.size ≤ z ∧ ∀ c ∈ s.cps.toList, c < 16 ^ 8
  | m :: ms, .list xs => xs.length ≤ m ∧ ∀ x ∈ xs, ShD z ms x
  | m :: ms, .tuple xs => xs.length ≤ m ∧ ∀ x ∈ xs, ShD z ms x
  | _, _ => False
def ShW (z : Nat) : List Nat → Nat
  | [] => z
  | m :: ms => m * (ShW z ms + 1) + z
def ShP (z w k : Nat) (d : D) : Prop := d.hasDict = false ∧ d.showable = true ∧ d.depth ≤ k ∧ d.leavesShort (z + 8) = true ∧ d.weight ≤ w
theorem shw_le (z : Nat) : ∀ ms, z ≤ ShW z ms
  | [] => Nat.le_refl _
  | m :: ms => by unfold ShW; omega
theorem shp_all {z w k : Nat} : ∀ {xs : List D}, (∀ x ∈ xs, ShP z w k x) → PyData.hasDictAll xs = false ∧ PyData.showableAll xs = true ∧ PyData.depthAll xs ≤ k ∧ PyData.leavesShortAll (z + 8) xs = true ∧ PyData.weightAll xs ≤ xs.length * (w + 1)
  | [], _ => ⟨rfl, rfl, by simp [PyData.depthAll], rfl, by simp [PyData.weightAll]⟩
  | x :: xs, h => by
    obtain ⟨a1, a2, a3, a4, a5⟩ := h x List.mem_cons_self
    obtain ⟨b1, b2, b3, b4, b5⟩ := shp_all (xs := xs) fun y hy => h y (List.mem_cons_of_mem _ hy)
    refine ⟨by rw [PyData.hasDictAll, a1, b1]; rfl, by rw [PyData.showableAll, a2, b2]; rfl, by rw [PyData.depthAll]; omega, by rw [PyData.leavesShortAll, a4, b4]; rfl, ?_⟩
    rw [PyData.weightAll, List.length_cons, Nat.add_mul, Nat.one_mul]
    omega
theorem shp_seq {z w k m : Nat} {xs : List D} (h : xs.length ≤ m) (g : ∀ x ∈ xs, ShP z w k x) : ShP z (m * (w + 1) + z) (k + 1) (.list xs) ∧ ShP z (m * (w + 1) + z) (k + 1) (.tuple xs) := by
  obtain ⟨b1, b2, b3, b4, b5⟩ := shp_all g
  have : xs.length * (w + 1) ≤ m * (w + 1) := Nat.mul_le_mul_right _ h
  refine ⟨⟨by simpa only [PyData.hasDict] using b1, by simpa only [PyData.showable] using b2, by simp only [PyData.depth]; omega, by simpa only [PyData.leavesShort] using b4, by simp only [PyData.weight]; omega⟩,
    ⟨by simpa only [PyData.hasDict] using b1, by simpa only [PyData.showable] using b2, by simp only [PyData.depth]; omega, by simpa only [PyData.leavesShort] using b4, by simp only [PyData.weight]; omega⟩⟩
theorem shp_int {z k : Nat} (hz0 : 1 ≤ z) (hz : z ≤ 1920) (a : Int) (h : a.natAbs < 2 ^ z) : ShP z z k (.int a) := by
  have l : a = 0 ∨ a.natAbs.log2 < z := by
    by_cases e : a = 0
    · exact .inl e
    · exact .inr ((Nat.log2_lt (by omega)).mpr h)
  refine ⟨by simp [PyData.hasDict], ?_, by simp [PyData.depth], ?_, ?_⟩
  · rcases l with rfl | l
    · decide
    · simp only [PyData.showable, decide_eq_true_eq]; omega
  · rcases l with rfl | l
    · simp only [PyData.leavesShort, decide_eq_true_eq]
      have : (PyData.shown (.int 0)).length = 1 := by decide
      omega
    · simp only [PyData.leavesShort, decide_eq_true_eq]
      show (Str.ofString (toString a)).length ≤ _
      have := int_text_length_le (k := z) (by omega) l
      rw [ofString_length]; omega
  · simp only [PyData.weight]
    rcases l with rfl | l
    · simp
    · split <;> omega
theorem shd_shp {z : Nat} (hz0 : 1 ≤ z) (hz : z ≤ 1920) : ∀ (ms : List Nat) (d : D), ShD z ms d → ShP z (ShW z ms) ms.length d
  | ms, .none, _ => ⟨by simp [PyData.hasDict], by simp [PyData.showable], by simp [PyData.depth], by simp [PyData.leavesShort], by simp [PyData.weight]⟩
  | ms, .bool _, _ => ⟨by simp [PyData.hasDict], by simp [PyData.showable], by simp [PyData.depth], by simp [PyData.leavesShort], by simp [PyData.weight]⟩
  | ms, .int a, h => by
    have h' : a.natAbs < 2 ^ z := by cases ms <;> exact h
    obtain ⟨b1, b2, b3, b4, b5⟩ := shp_int (k := ms.length) hz0 hz a h'
    exact ⟨b1, b2, b3, b4, Nat.le_trans b5 (shw_le z ms)⟩
  | ms, .str s, h => by
    have h' : s.cps.size ≤ z ∧ ∀ c ∈ s.cps.toList, c < 16 ^ 8 := by cases ms <;> exact h
    refine ⟨by simp [PyData.hasDict], by simp [PyData.showable], by simp [PyData.depth], ?_, ?_⟩
    · simp only [PyData.leavesShort, List.all_eq_true, decide_eq_true_eq]; exact h'.2
    · simp only [PyData.weight]; exact Nat.le_trans h'.1 (shw_le z ms)
  | m :: ms, .list xs, h => (shp_seq h.1 fun x hx => shd_shp hz0 hz ms x (h.2 x hx)).1
  | m :: ms, .tuple xs, h => (shp_seq h.1 fun x hx => shd_shp hz0 hz ms x (h.2 x hx)).2
  | [], .list xs, h => h.elim
  | [], .tuple xs, h => h.elim
  | [], .dict _, h => h.elim
  | _ :: _, .dict _, h => h.elim
def ReprOk (d : D) : Prop := (d.hasDict = true → hasLst d = false) ∧ d.showable = true ∧ d.depth ≤ 64 ∧ d.shown.length ≤ sizeLine
theorem repr_ok {z : Nat} {ms : List Nat} {d : D} (h : ShD z ms d) (hz0 : 1 ≤ z) (hz : z ≤ 1920) (hl : ms.length ≤ 64) (hw : (z + 10) * ShW z ms + z + 8 ≤ 16777216) : ReprOk d := by
  obtain ⟨b1, b2, b3, b4, b5⟩ := shd_shp hz0 hz ms d h
  refine ⟨fun e => (by rw [b1] at e; cases e), b2, by omega, ?_⟩
  have := PyData.shown_le (z + 8) (by omega) d b4
  rw [show z + 8 + 2 = z + 10 by omega] at this
  have w : (z + 10) * d.weight ≤ (z + 10) * ShW z ms := Nat.mul_le_mul_left _ b5
  rw [sizeLine_eq]
  omega
theorem repr_emp : ReprOk (.dict []) := ⟨fun _ => rfl, rfl, by decide, by decide⟩
theorem shd_toString {z : Nat} {ms : List Nat} (a : Int) (hz0 : 1 ≤ z) (h : a.natAbs < 2 ^ z) : ShD (z + 1) ms (.str (toString a)) := by
  have g : (Str.ofString (toString a)).cps.size ≤ z + 1 ∧ ∀ c ∈ (Str.ofString (toString a)).cps.toList, c < 16 ^ 8 := by
    constructor
    · have l : a = 0 ∨ a.natAbs.log2 < z := by
        by_cases e : a = 0
        · exact .inl e
        · exact .inr ((Nat.log2_lt (by omega)).mpr h)
      rcases l with rfl | l
      · have : (Str.ofString (toString (0 : Int))).cps.size = 1 := by decide
        omega
      · show (Str.ofString (toString a)).length ≤ _
        have := int_text_length_le (k := z) (by omega) l
        rw [ofString_length]; omega
    · intro c hc
      rw [Str.ofString_eq_toList] at hc
      simp only [List.mem_map] at hc
      obtain ⟨x, _, rfl⟩ := hc
      have := x.val.toNat_lt
      exact Nat.lt_of_lt_of_le this (by decide)
  cases ms <;> exact g
end Pr
end
section
namespace Pr
open PySem TL
/-- a polynomial as the program has it -/
def pL (p : List Rat) : List D := p.map frD
def pT (p : List Rat) : D := .tuple (pL p)
theorem pL_len (p : List Rat) : (pL p).length = p.length := by unfold pL; simp
theorem pL_get {p : List Rat} {i : Nat} {d : D} (h : (pL p)[i]? = some d) : ∃ a : Rat, p[i]? = some a ∧ d = frD a := by
  unfold pL at h
  rw [List.getElem?_map] at h
  cases e : p[i]? with
  | none => rw [e] at h; cases h
  | some a => rw [e] at h; cases h; exact ⟨a, rfl, rfl⟩
theorem pL_at {p : List Rat} {i : Nat} (h : i < p.length) : (pL p)[i]? = some (frD (p.getD i 0)) := by
  unfold pL
  rw [List.getElem?_map, List.getElem?_eq_getElem h, List.getD_eq_getElem?_getD, List.getElem?_eq_getElem h]; rfl
theorem frD_0 : (.tuple [.int 0, .int 1] : D) = frD 0 := rfl
theorem frD_1 : (.tuple [.int 1, .int 1] : D) = frD 1 := rfl
/-- how long it is without zeros at its end -/
def tl (l : List Rat) : Nat → Nat
  | 0 => 0
  | n + 1 => if l.getD n 0 = 0 then tl l n else n + 1
theorem tl_le (l : List Rat) : ∀ n, tl l n ≤ n
  | 0 => Nat.le_refl _
  | n + 1 => by unfold tl; split; exact Nat.le_succ_of_le (tl_le l n); exact Nat.le_refl _
def trimR (l : List Rat) : List Rat := l.take (tl l l.length)
def PS (k : Nat) (p : List Rat) : Prop := ∀ a ∈ p, RS k a
theorem PS.mono {k l : Nat} {p : List Rat} (h : PS k p) (e : k ≤ l) : PS l p := fun a m => (h a m).mono e
theorem PS.trim {k : Nat} {p : List Rat} (h : PS k p) : PS k (trimR p) := fun a m => h a (List.mem_of_mem_take m)
theorem trim_len (p : List Rat) : (trimR p).length ≤ p.length := by unfold trimR; rw [List.length_take]; omega
theorem RS.zero {k : Nat} (h : 1 ≤ k) : RS k 0 := RS.mono (show RS 1 0 from ⟨by unfold Sz; decide, by unfold Sz; decide⟩) h
theorem RS.one {k : Nat} (h : 1 ≤ k) : RS k 1 := RS.mono (show RS 1 1 from ⟨by unfold Sz; decide, by unfold Sz; decide⟩) h
theorem PS.getD {k : Nat} {p : List Rat} (h : PS k p) (k0 : 1 ≤ k) (i : Nat) : RS k (p.getD i 0) := by
  rcases Nat.lt_or_ge i p.length with z | z
  · rw [List.getD_eq_getElem?_getD, List.getElem?_eq_getElem z]; exact h _ (List.getElem_mem z)
  · rw [List.getD_eq_getElem?_getD, List.getElem?_eq_none z]; exact .zero k0
def evR (p : List Rat) (x : Rat) : Rat := p.foldr (fun a v => v * x + a) 0
theorem evR_drop (p : List Rat) (x : Rat) (i : Nat) (h : i < p.length) : evR (p.drop i) x = evR (p.drop (i + 1)) x * x + p.getD i 0 := by
  rw [List.drop_eq_getElem_cons h, List.getD_eq_getElem?_getD, List.getElem?_eq_getElem h]; rfl
theorem pL_drop (p : List Rat) (n : Nat) : (pL p).drop n = pL (p.drop n) := by unfold pL; rw [List.map_drop]
theorem pL_take (p : List Rat) (n : Nat) : (pL p).take n = pL (p.take n) := by unfold pL; rw [List.map_take]
theorem num_pL (p : List Rat) : (pL p).all (numD 1) = true := by
  rw [List.all_eq_true]
  intro d h
  unfold pL at h
  obtain ⟨a, _, rfl⟩ := List.mem_map.mp h
  exact num_fr _ _
theorem num_pT (p : List Rat) : numD 2 (pT p) = true := by unfold pT; rw [numD]; exact num_pL p
theorem same_fr (k : Nat) (a : Rat) : SameT (k + 2) (frD a) := ⟨by simp, fun x hx => by
  simp only [List.mem_cons, List.not_mem_nil, or_false] at hx
  rcases hx with rfl | rfl <;> exact trivial⟩
theorem same_pT (k : Nat) (p : List Rat) (h : p.length ≤ 900) : SameT (k + 3) (pT p) := ⟨by rw [pL_len]; exact h, fun x hx => by
  unfold pL at hx
  obtain ⟨a, _, rfl⟩ := List.mem_map.mp hx
  exact same_fr k a⟩
theorem at_pL {p : List Rat} {k : Int} {P : D → Prop} (h0 : 0 ≤ k) (h1 : k < p.length) : (∃ d, L2.atI (pL p) k = some d ∧ P d) = P (frD (p.getD k.toNat 0)) := by
  rw [at_get h0 (by rw [pL_len]; exact h1), List.getD_eq_getElem?_getD, pL_at (by omega)]; rfl
theorem atn_pL {p : List Rat} {P : D → Prop} (h : 1 ≤ p.length) : (∃ d, L2.atI (pL p) (-1) = some d ∧ P d) = P (frD (p.getD (p.length - 1) 0)) := by
  rw [at_neg (by omega) (by rw [pL_len]; omega), List.getD_eq_getElem?_getD, pL_len, show ((-1 : Int) + p.length).toNat = p.length - 1 by omega, pL_at (by omega)]; rfl
theorem eqok_frd (a b : Rat) : EqOk (frD a) (frD b) := eqok_fr _ _ _ _
theorem eqv_frd (a b : Rat) : PyData.eqv (frD a) (frD b) = decide (a = b) := eqv_fr a b
theorem pL_get2 {p : List Rat} {i : Nat} {d : D} (h : (pL p)[i]? = some d) : i < p.length ∧ d = frD (p.getD i 0) := by
  obtain ⟨a, h1, rfl⟩ := pL_get h
  rw [List.getD_eq_getElem?_getD, h1]
  exact ⟨(List.getElem?_eq_some_iff.mp h1).1, rfl⟩
theorem pL_rev {p : List Rat} {i : Nat} {d : D} (h : (pL p).reverse[i]? = some d) : i < p.length ∧ d = frD (p.getD (p.length - 1 - i) 0) := by
  have hi := (List.getElem?_eq_some_iff.mp h).1
  rw [List.length_reverse, pL_len] at hi
  rw [List.getElem?_reverse (by rw [pL_len]; exact hi), pL_len] at h
  exact ⟨hi, (pL_get2 h).2⟩
theorem szl {k : Nat} (h : k < 1000000) : k < sizeLine := Nat.lt_of_lt_of_le h (by decide)
theorem c_fr_eq {a b : Rat} {Q : D → Prop} : wpCmp .Eq (frD a) (frD b) Q = Q (.bool (decide (a = b))) := by
  unfold frD
  walk_at "S"
  rw [eqv_fr]
  exact propext ⟨fun h => h.2, fun h => ⟨eqok_fr _ _ _ _, h⟩⟩
theorem c_fr_ne {a b : Rat} {Q : D → Prop} : wpCmp .NotEq (frD a) (frD b) Q = Q (.bool (!decide (a = b))) := by
  unfold frD
  walk_at "S"
  rw [eqv_fr]
  exact propext ⟨fun h => h.2, fun h => ⟨eqok_fr _ _ _ _, h⟩⟩
end Pr
end
section
namespace Pr
open PySem TL
def sumR (p q : List Rat) : List Rat := (List.range (if (q.length : Int) > p.length then q.length else p.length)).map fun i => p.getD i 0 + q.getD i 0
theorem sumR_comm (p q : List Rat) : sumR p q = sumR q p := by
  unfold sumR
  have e : (if (q.length : Int) > p.length then q.length else p.length) = (if (p.length : Int) > q.length then p.length else q.length) := by (repeat' split) <;> omega
  rw [e]
  congr 1
  funext i
  exact Rat.add_comm _ _
theorem pL_snoc (f : Nat → Rat) (i : Nat) : pL ((List.range i).map f) ++ [frD (f i)] = pL ((List.range (i + 1)).map f) := by
  unfold pL
  rw [List.range_succ]; simp
def derR (p : List Rat) : List Rat := ((List.range p.length).map fun i => p.getD i 0 * (i : Rat)).drop 1
theorem frD_nat (i : Nat) : (.tuple [.int (i : Nat), .int 1] : D) = frD (i : Rat) := rfl
theorem RS.nat {k i : Nat} (h : i < 2 ^ k) (k0 : 1 ≤ k) : RS k (i : Rat) := ⟨by unfold Sz; exact h, (RS.one k0).2⟩
/-! ### products -/
/-- how much a step adds to the place c -/
def prodAt (p r : List Rat) (i j : Nat) (c : Nat) : Rat := ((List.range i).map fun a => ((List.range r.length).map fun b => if a + b = c then p.getD a 0 * r.getD b 0 else 0).sum).sum + ((List.range j).map fun b => if i + b = c then p.getD i 0 * r.getD b 0 else 0).sum
def prodR (p r : List Rat) : List Rat := (List.range (p.length + r.length)).map (prodAt p r p.length 0)
theorem sum_snoc (f : Nat → Rat) (i : Nat) : ((List.range (i + 1)).map f).sum = ((List.range i).map f).sum + f i := by
  rw [List.range_succ, List.map_append, List.sum_append]
  simp [Rat.add_zero]
theorem prodAt_row (p r : List Rat) (i c : Nat) : prodAt p r i r.length c = prodAt p r (i + 1) 0 c := by
  unfold prodAt
  rw [sum_snoc]
  simp [Rat.add_zero]
theorem prodAt_col (p r : List Rat) (i j c : Nat) : prodAt p r i (j + 1) c = prodAt p r i j c + (if i + j = c then p.getD i 0 * r.getD j 0 else 0) := by
  unfold prodAt
  rw [sum_snoc, Rat.add_assoc]
theorem sum_add (f g : Nat → Rat) : ∀ n, ((List.range n).map fun i => f i + g i).sum = ((List.range n).map f).sum + ((List.range n).map g).sum
  | 0 => by simp [Rat.add_zero]
  | n + 1 => by rw [sum_snoc, sum_snoc, sum_snoc, sum_add f g n]; grind
theorem sum_zero : ∀ n, ((List.range n).map fun _ => (0 : Rat)).sum = 0
  | 0 => by simp
  | n + 1 => by rw [sum_snoc, sum_zero n, Rat.add_zero]
theorem sum_swap (f : Nat → Nat → Rat) (m : Nat) : ∀ n, ((List.range n).map fun a => ((List.range m).map fun b => f a b).sum).sum = ((List.range m).map fun b => ((List.range n).map fun a => f a b).sum).sum
  | 0 => by simp; rw [sum_zero]
  | n + 1 => by
    rw [sum_snoc, sum_swap f m n]
    rw [← sum_add]
    congr 1
    refine List.map_congr_left fun b _ => ?_
    rw [sum_snoc]
theorem prodR_comm (p r : List Rat) : prodR p r = prodR r p := by
  unfold prodR
  rw [Nat.add_comm p.length]
  refine List.map_congr_left fun c _ => ?_
  unfold prodAt
  rw [sum_swap]
  simp only [List.range_zero, List.map_nil, List.sum_nil]
  congr 2
  refine List.map_congr_left fun a _ => ?_
  congr 1
  refine List.map_congr_left fun b _ => ?_
  rw [Nat.add_comm b a, Rat.mul_comm]
def prodL (p r : List Rat) (i j : Nat) : List Rat := (List.range (p.length + r.length)).map (prodAt p r i j)
theorem prodL_set (p r : List Rat) (i j : Nat) (h : i + j < p.length + r.length) : (pL (prodL p r i j)).set (i + j) (frD (prodAt p r i j (i + j) + p.getD i 0 * r.getD j 0)) = pL (prodL p r i (j + 1)) := by
  refine List.ext_getElem? fun c => ?_
  unfold pL prodL
  simp only [List.getElem?_set, List.length_map, List.length_range, List.getElem?_map]
  by_cases e : i + j = c
  · subst e
    rw [if_pos rfl, if_pos h, List.getElem?_range h]
    simp only [Option.map_some, prodAt_col, if_true]
  · rw [if_neg e]
    by_cases hc : c < p.length + r.length
    · rw [List.getElem?_range hc]
      simp only [Option.map_some, prodAt_col, if_neg e, Rat.add_zero]
    · rw [List.getElem?_eq_none (by simp; omega)]; rfl
theorem row_at (p r : List Rat) (a c : Nat) : ∀ j, ((List.range j).map fun b => if a + b = c then p.getD a 0 * r.getD b 0 else 0).sum = if a ≤ c ∧ c < a + j then p.getD a 0 * r.getD (c - a) 0 else 0
  | 0 => by rw [if_neg (by omega)]; simp
  | j + 1 => by
    rw [sum_snoc, row_at p r a c j]
    by_cases e : a + j = c
    · subst e
      rw [if_neg (by omega), if_pos rfl, if_pos (by omega), Rat.zero_add, Nat.add_sub_cancel_left]
    · rw [if_neg e, Rat.add_zero]
      by_cases h : a ≤ c ∧ c < a + j
      · rw [if_pos h, if_pos (by omega)]
      · rw [if_neg h, if_neg (by omega)]
theorem row_sz {k : Nat} {p r : List Rat} (hp : PS k p) (hr : PS k r) (k0 : 1 ≤ k) (a c j : Nat) : RS (2 * k) (((List.range j).map fun b => if a + b = c then p.getD a 0 * r.getD b 0 else 0).sum) := by
  rw [row_at]
  split
  · exact ((hp.getD k0 a).mul (hr.getD k0 _)).mono (by omega)
  · exact .zero (by omega)
theorem prod_sz {k : Nat} {p r : List Rat} (hp : PS k p) (hr : PS k r) (k0 : 1 ≤ k) (i j c : Nat) : RS ((i + 1) * (2 * k + 1) + 1) (prodAt p r i j c) := by
  unfold prodAt
  have : ∀ i, RS (i * (2 * k + 1) + 1) (((List.range i).map fun a => ((List.range r.length).map fun b => if a + b = c then p.getD a 0 * r.getD b 0 else 0).sum).sum) := by
    intro i
    induction i with
    | zero => simp only [List.range_zero, List.map_nil, List.sum_nil]; exact .zero (by omega)
    | succ i ih =>
      rw [sum_snoc]
      refine (ih.add (row_sz hp hr k0 i c r.length)).mono ?_
      rw [Nat.add_mul]; omega
  refine ((this i).add (row_sz hp hr k0 i c j)).mono ?_
  rw [Nat.add_mul]; omega
theorem prodL_0 (p r : List Rat) : (List.replicate (p.length + r.length) [frD 0]).flatten = pL (prodL p r 0 0) := by
  rw [show (List.replicate (p.length + r.length) [frD 0]).flatten = List.replicate (p.length + r.length) (frD 0) from by
    generalize p.length + r.length = n
    induction n with
    | zero => rfl
    | succ n ih => rw [List.replicate_succ, List.flatten_cons, ih]; rfl]
  unfold pL prodL
  rw [List.map_map]
  refine List.ext_getElem? fun c => ?_
  by_cases h : c < p.length + r.length
  · rw [List.getElem?_replicate_of_lt h, List.getElem?_map, List.getElem?_range h]
    simp only [Option.map_some, Function.comp]
    unfold prodAt
    simp [Rat.add_zero]
  · rw [List.getElem?_eq_none (by simp; omega), List.getElem?_eq_none (by simp; omega)]
theorem prodL_len (p r : List Rat) (i j : Nat) : (prodL p r i j).length = p.length + r.length := by unfold prodL; simp
theorem prodL_at (p r : List Rat) (i j c : Nat) (h : c < p.length + r.length) : (prodL p r i j).getD c 0 = prodAt p r i j c := by
  unfold prodL
  rw [List.getD_eq_getElem?_getD, List.getElem?_map, List.getElem?_range h]; rfl
theorem enum_pL (p : List Rat) : (enumD (pL p)).length = p.length := by unfold enumD; simp [pL_len]
end Pr
end
section
namespace Pr
open PySem TL
theorem PS.snoc {k : Nat} {p : List Rat} {a : Rat} (h : PS k p) (g : RS k a) : PS k (p ++ [a]) := fun x hx => by
  rcases List.mem_append.mp hx with h1 | h1
  · exact h x h1
  · rw [List.mem_singleton] at h1; subst h1; exact g
theorem pL_app (p q : List Rat) : pL p ++ pL q = pL (p ++ q) := by unfold pL; simp
theorem pL_1 (a : Rat) : [frD a] = pL [a] := rfl
theorem pL_s (p : List Rat) (a : Rat) : pL p ++ [frD a] = pL (p ++ [a]) := pL_app p [a]
end Pr
end
section
namespace Pr
open PySem TL
structure Bond where
  ds : List Int
  rate : Rat
  m : Int
  word : Str
  bs : List Rat
def iT (ds : List Int) : D := .tuple (ds.map .int)
def Bond.d (b : Bond) : D := .tuple [.tuple (b.ds.map .int), frD b.rate, .int b.m, .str b.word, .tuple (pL b.bs)]
structure Bond.Ok (b : Bond) : Prop where
  len : b.ds.length = b.bs.length + 1
  l0 : 1 ≤ b.bs.length
  l1 : b.bs.length ≤ 20
  up : ∀ i, i + 1 < b.ds.length → b.ds.getD i 0 < b.ds.getD (i + 1) 0 ∧ b.ds.getD (i + 1) 0 ≤ b.ds.getD i 0 + 400
  inD : ∀ i, i < b.ds.length → InD (b.ds.getD i 0)
  rate : RS 15 b.rate
  m0 : 1 ≤ b.m
  m1 : b.m ≤ 12
  bs : PS 32 b.bs
theorem Bond.Ok.inS {b : Bond} (h : b.Ok) : ∀ x ∈ b.ds, InD x := fun x hx => by
  obtain ⟨i, hi, rfl⟩ := List.mem_iff_getElem.mp hx
  have := h.inD i hi
  rwa [List.getD_eq_getElem?_getD, List.getElem?_eq_getElem hi] at this
theorem Bond.Ok.lt {b : Bond} (h : b.Ok) : ∀ (i j : Nat), i < j → j < b.ds.length → b.ds.getD i 0 < b.ds.getD j 0 := fun i j => by
  induction j with
  | zero => intro h; omega
  | succ j ih =>
    intro hij hj
    have := (h.up j hj).1
    rcases Nat.lt_or_eq_of_le (Nat.le_of_lt_succ hij) with z | z
    · have := ih z (by omega); omega
    · rw [z]; exact this
theorem Bond.Ok.le {b : Bond} (h : b.Ok) (i j : Nat) (hij : i ≤ j) (hj : j < b.ds.length) : b.ds.getD i 0 ≤ b.ds.getD j 0 := by
  rcases Nat.lt_or_eq_of_le hij with z | z
  · exact Int.le_of_lt (h.lt i j z hj)
  · rw [z]; exact Int.le_refl _
def sumL (l : List Rat) : Rat := l.foldl (· + ·) 0
theorem sumL_snoc (l : List Rat) (a : Rat) : sumL (l ++ [a]) = sumL l + a := by unfold sumL; rw [List.foldl_append]; rfl
theorem sumL_take {l : List Rat} {i : Nat} (h : i < l.length) : sumL (l.take (i + 1)) = sumL (l.take i) + l.getD i 0 := by
  rw [List.take_succ_eq_append_getElem h, sumL_snoc, List.getD_eq_getElem?_getD, List.getElem?_eq_getElem h]; rfl
theorem sumL_sz {k : Nat} {l : List Rat} (h : PS k l) (k0 : 1 ≤ k) : ∀ i, i ≤ l.length → RS (i * (k + 1) + 1) (sumL (l.take i))
  | 0, _ => by rw [List.take_zero]; exact .zero (by omega)
  | i + 1, hi => by
    rw [sumL_take (by omega)]
    refine ((sumL_sz h k0 i (by omega)).add (h.getD k0 i)).mono ?_
    rw [Nat.add_mul]; omega
theorem sumL_sz' {k m : Nat} {l : List Rat} (h : PS k l) (k0 : 1 ≤ k) (hm : l.length ≤ m) : RS (m * (k + 1) + 1) (sumL l) := by
  have := sumL_sz h k0 l.length (Nat.le_refl _)
  rw [List.take_length] at this
  exact this.mono (by have : l.length * (k + 1) ≤ m * (k + 1) := Nat.mul_le_mul_right _ hm; omega)
noncomputable def partR (b : Bond) (k : Nat) (day : Int) : Rat :=
  if b.word = "period" then Rat.divInt (day - b.ds.getD k 0) (b.m * (b.ds.getD (k + 1) 0 - b.ds.getD k 0)) else cnt b.word (b.ds.getD k 0) day
noncomputable def intR (b : Bond) (k : Nat) (day : Int) : Rat := sumL (b.bs.drop k) * b.rate * partR b k day
noncomputable def flowA (b : Bond) (k : Nat) : Rat := intR b k (b.ds.getD (k + 1) 0) + b.bs.getD k 0
noncomputable def flowD (b : Bond) (k : Nat) : D := .tuple [.int (b.ds.getD (k + 1) 0), frD (flowA b k)]
noncomputable def flD (b : Bond) : List D := (List.range b.bs.length).map (flowD b)
theorem part_bot {b : Bond} (h : b.Ok) {k : Nat} (hk : k < b.bs.length) : 0 < b.m * (b.ds.getD (k + 1) 0 - b.ds.getD k 0) ∧ b.m * (b.ds.getD (k + 1) 0 - b.ds.getD k 0) ≤ 4800 := by
  have u := h.up k (by rw [h.len]; omega)
  have m0 := h.m0
  have m1 := h.m1
  have g0 : 1 ≤ b.ds.getD (k + 1) 0 - b.ds.getD k 0 := by omega
  have g1 : b.ds.getD (k + 1) 0 - b.ds.getD k 0 ≤ 400 := by omega
  generalize b.ds.getD (k + 1) 0 - b.ds.getD k 0 = g at *
  refine ⟨Int.mul_pos (by omega) (by omega), ?_⟩
  have a1 : b.m * g ≤ 12 * g := Int.mul_le_mul_of_nonneg_right m1 (by omega)
  omega
theorem szD {x y : Int} (hx : InD x) (hy : InD y) : Sz 18 (x - y) := by unfold Sz; have := hx.1; have := hx.2; have := hy.1; have := hy.2; omega
theorem partR_sz {b : Bond} (h : b.Ok) {k : Nat} (hk : k < b.bs.length) {day : Int} (hd : InD day) : RS 18 (partR b k day) := by
  unfold partR
  have i0 := h.inD k (by rw [h.len]; omega)
  split
  · have pb := part_bot h hk
    exact .of (szD hd i0) (by unfold Sz; omega) (by omega)
  · exact cnt_sz' i0 hd
theorem intR_sz {b : Bond} (h : b.Ok) {k : Nat} (hk : k < b.bs.length) {day : Int} (hd : InD day) : RS 700 (intR b k day) := by
  unfold intR
  have s := sumL_sz' (m := 20) (l := b.bs.drop k) (fun a m => h.bs a (List.mem_of_mem_drop m)) (by decide) (by rw [List.length_drop]; have := h.l1; omega)
  exact ((s.mul h.rate).mul (partR_sz h hk hd)).mono (by decide)
theorem flowA_sz {b : Bond} (h : b.Ok) {k : Nat} (hk : k < b.bs.length) : RS 740 (flowA b k) :=
  ((intR_sz h hk (h.inD (k + 1) (by rw [h.len]; omega))).add (h.bs.getD (by decide) k)).mono (by decide)
/-- the first one -/
def perF (p : Nat → Bool) : Nat → Option Nat
  | 0 => none
  | n + 1 => match perF p n with
    | some k => some k
    | none => if p n = true then some n else none
theorem perF_some {p : Nat → Bool} {k : Nat} : ∀ {n : Nat}, perF p n = some k → k < n ∧ p k = true
  | 0, h => by cases h
  | n + 1, h => by
    rw [perF] at h
    split at h
    · rename_i e; cases h; have := perF_some e; exact ⟨by omega, this.2⟩
    · split at h
      · cases h; exact ⟨by omega, by assumption⟩
      · cases h
theorem perF_none {p : Nat → Bool} : ∀ {n : Nat}, perF p n = none → ∀ j, j < n → p j = false
  | 0, _, j, h => by omega
  | n + 1, e, j, h => by
    rw [perF] at e
    split at e
    · cases e
    · rename_i e1
      split at e
      · cases e
      · rename_i e2
        rcases Nat.lt_or_eq_of_le (Nat.le_of_lt_succ h) with z | z
        · exact perF_none e1 j z
        · rw [z]; simpa using e2
theorem perF_stop {p : Nat → Bool} {i : Nat} (h0 : perF p i = none) (h1 : p i = true) : ∀ n, i < n → perF p n = some i
  | 0, h => by omega
  | n + 1, h => by
    rw [perF]
    rcases Nat.lt_or_eq_of_le (Nat.le_of_lt_succ h) with z | z
    · rw [perF_stop h0 h1 n z]
    · rw [← z, h0]; simp [h1]
theorem perF_go {p : Nat → Bool} {i : Nat} (h0 : perF p i = none) (h1 : p i = false) : perF p (i + 1) = none := by rw [perF, h0]; simp [h1]
def perB (b : Bond) (day : Int) (k : Nat) : Bool := decide (b.ds.getD k 0 ≤ day ∧ day < b.ds.getD (k + 1) 0)
def perO (b : Bond) (day : Int) : Option Nat := perF (perB b day) b.bs.length
noncomputable def accR (b : Bond) (day : Int) : Rat := match perO b day with
  | some k => intR b k day
  | none => 0
theorem at_i {ds : List Int} {i : Nat} {P : D → Prop} (h : i < ds.length) : (∃ d, L2.atI (ds.map PyData.int) (i : Int) = some d ∧ P d) = P (.int (ds.getD i 0)) := by
  rw [at_ints (by omega) (by omega), Int.toNat_natCast]
theorem at_i1 {ds : List Int} {i : Nat} {P : D → Prop} (h : i + 1 < ds.length) : (∃ d, L2.atI (ds.map PyData.int) ((i : Int) + 1) = some d ∧ P d) = P (.int (ds.getD (i + 1) 0)) := by
  rw [at_ints (by omega) (by omega), show ((i : Int) + 1).toNat = i + 1 by omega]
theorem at_p {p : List Rat} {i : Nat} {P : D → Prop} (h : i < p.length) : (∃ d, L2.atI (pL p) (i : Int) = some d ∧ P d) = P (frD (p.getD i 0)) := by
  rw [at_pL (by omega) (by omega), Int.toNat_natCast]
end Pr
end
section
namespace Pr
open PySem TL
theorem sum_all_ok (n : Nat) {k : Nat} (p : List Rat) (hp : PS k p) (k0 : 1 ≤ k) (hk : 21 * (k + 1) < 3900) (hl : p.length ≤ 20) (Q : RV → List D → Prop) (q : Q (.fz (frD (sumL p))) []) : run tb.G pr (n + 4) "sum_all" [.tuple (pL p)] Q := by
  rw [e_sum_all]; unfold b_sum_all
  simp only [↓x_glb (show tb.G "ZERO" = some (frD 0) from rfl), ↓TL.x_var, ↓TL.x_lit, ↓TL.x_glb, ↓TL.x_tup, ↓TL.x_lst, ↓TL.x_emp, ↓TL.x_rvs, ↓TL.x_met, ↓TL.x_dc1, ↓TL.x_dc2, ↓TL.x_bin, ↓TL.x_neg, ↓TL.x_nt, ↓TL.x_cmp, ↓TL.x_chn, ↓TL.x_and, ↓TL.x_or, ↓TL.x_ife, ↓TL.x_idx, ↓TL.x_slc, ↓TL.x_call, ↓TL.x_pcall, ↓TL.x_bl1, ↓TL.x_bl2, ↓TL.x_isi, ↓TL.x_pop, ↓TL.x_lc, ↓TL.x_lc2, ↓TL.x_nil, ↓TL.x_cons, ↓TL.x_no, ↓TL.x_so, ↓TL.x_tof, ↓TL.x_tand, ↓TL.x_tor, ↓TL.x_tnt, ↓TL.x_tite, ↓TL.x_ctno, ↓TL.x_ctso, ↓TL.x_iof, ↓TL.x_irng1, ↓TL.x_irng2, ↓TL.x_irng3, ↓TL.x_ienum, ↓TL.x_izip, ↓TL.x_irev, ↓TL.s_asg_, ↓TL.s_par_, ↓TL.s_sub_, ↓TL.s_aug_, ↓TL.s_swp_, ↓TL.s_augs_, ↓TL.s_subW, ↓TL.s_exp_, ↓TL.s_app_, ↓TL.s_ite_, ↓TL.s_for_, ↓TL.s_whl_, ↓TL.s_retN_, ↓TL.s_brk_, ↓TL.s_cnt_, ↓TL.s_pas_, ↓TL.ss_nil_, ↓TL.ss_cons_, ↓TL.o_dc1, ↓TL.s_ret_dc1, ↓TL.o_dc2, ↓TL.s_ret_dc2, ↓TL.o_emp, ↓TL.s_ret_emp, ↓TL.o_rvs, ↓TL.s_ret_rvs, ↓TL.o_met, ↓TL.s_ret_met, ↓TL.o_lit, ↓TL.s_ret_lit, ↓TL.o_glb, ↓TL.s_ret_glb, ↓TL.o_tup, ↓TL.s_ret_tup, ↓TL.o_lst, ↓TL.s_ret_lst, ↓TL.o_bin, ↓TL.s_ret_bin, ↓TL.o_neg, ↓TL.s_ret_neg, ↓TL.o_nt, ↓TL.s_ret_nt, ↓TL.o_cmp, ↓TL.s_ret_cmp, ↓TL.o_chn, ↓TL.s_ret_chn, ↓TL.o_and, ↓TL.s_ret_and, ↓TL.o_or, ↓TL.s_ret_or, ↓TL.o_ife, ↓TL.s_ret_ife, ↓TL.o_idx, ↓TL.s_ret_idx, ↓TL.o_slc, ↓TL.s_ret_slc, ↓TL.o_call, ↓TL.s_ret_call, ↓TL.o_pcall, ↓TL.s_ret_pcall, ↓TL.o_bl1, ↓TL.s_ret_bl1, ↓TL.o_bl2, ↓TL.s_ret_bl2, ↓TL.o_isi, ↓TL.s_ret_isi, ↓TL.o_pop, ↓TL.s_ret_pop, ↓TL.o_lc, ↓TL.s_ret_lc, ↓TL.o_lc2, ↓TL.s_ret_lc2, ↓TL.o_var_, ↓TL.s_retv_, ↓TL.l_val, ↓TL.l_slot, ↓TL.tg_fz, ↓TL.tg_own, ↓TL.tg_tup, ↓TL.tg_nil, ↓TL.tg_cons, ↓TL.wv_fz, ↓TL.wv_own, ↓TL.wv_s, ↓TL.lk_fz, ↓TL.lk_own, ↓TL.lk_bor, ↓TL.lk_s, ↓TL.cs_s, ↓TL.cs_un, ↓TL.cs_fz, ↓TL.cs_own, ↓TL.hd_own, ↓TL.hd_bor, ↓TL.hd_s, ↓TL.sh_own, ↓TL.sh_bor, ↓TL.sh_s, ↓TL.st_0, ↓TL.st_s, ↓TL.fr_nil, ↓TL.fr_cons, ↓TL.wp_nil, ↓TL.wp_cons, ↓TL.bk_nil, ↓TL.bk_cons, ↓TL.b_addI, ↓TL.b_subI, ↓TL.b_mulI, ↓TL.b_divI, ↓TL.b_modI, ↓TL.b_powI, ↓TL.b_addS, ↓TL.b_addT, ↓TL.b_addL, ↓TL.b_mulL, ↓TL.b_mulT, ↓TL.a_add, ↓TL.a_sub, ↓TL.a_mul, ↓TL.c_Eq_int, ↓TL.c_Eq_bool, ↓TL.c_Eq_str, ↓TL.c_Eq_tuple, ↓TL.c_Eq_list, ↓TL.c_NotEq_int, ↓TL.c_NotEq_bool, ↓TL.c_NotEq_str, ↓TL.c_NotEq_tuple, ↓TL.c_NotEq_list, ↓TL.c_Lt, ↓TL.c_LtE, ↓TL.c_Gt, ↓TL.c_GtE, ↓TL.c_LtE_b, ↓TL.c_Is_b, ↓TL.c_Is_n, ↓TL.c_IsNot_b, ↓TL.c_IsNot_n, ↓TL.c_In_tuple, ↓TL.c_In_list, ↓TL.c_NotIn_tuple, ↓TL.c_NotIn_list, ↓TL.t_non, ↓TL.t_bl, ↓TL.t_int, ↓TL.t_str, ↓TL.t_lst, ↓TL.t_tup, ↓TL.i_lst, ↓TL.i_tup, ↓TL.sl_lst, ↓TL.sl_tup, ↓TL.as_i, ↓TL.as_b, ↓TL.it_l, ↓TL.it_t, ↓TL.ls_l, ↓TL.zp_n, ↓TL.zp_f, ↓TL.zp_s, ↓TL.rv_l, ↓TL.rv_t, ↓TL.m_sw, ↓TL.m_ew, ↓TL.m_ix, ↓TL.m_ixd, ↓TL.tm_ixd, ↓TL.tm_sw, ↓TL.tm_ew, ↓TL.tm_ix, ↓TL.c_Lt_t, ↓TL.f_lenL, ↓TL.f_lenT, ↓TL.f_lenS, ↓TL.f_abs, ↓TL.f_min, ↓TL.f_max, ↓TL.f_sum, ↓TL.f_all, ↓TL.f_any, ↓TL.f_sort, ↓TL.f_ssetL, ↓TL.f_ssetT, ↓TL.f_trng, ↓TL.f_denL, ↓TL.f_denT, ↓TL.f_tupL, ↓TL.f_tupT, ↓TL.f_lstL, ↓TL.f_lstT, ↓TL.f_intI, ↓TL.f_intB, ↓TL.f_str, ↓TL.g_min, ↓TL.g_max, ↓TL.rd_fz, ↓TL.rd_own, ↓TL.rs_fz, ↓TL.rs_own, ↓TL.ou_b, ↓TL.at_l0, ↓TL.at_l1, ↓TL.at_l2, ↓TL.at_l3, ↓TL.at_l4, ↓TL.at_l5, ↓TL.at_l6, ↓TL.at_l7, ↓TL.ix_l0, ↓TL.ix_l1, ↓TL.ix_l2, ↓TL.ix_l3, ↓TL.ix_l4, ↓TL.ix_l5, ↓TL.ix_l6, ↓TL.ix_l7, ↓TL.ix_l8, ↓TL.ix_l9, ↓TL.ix_l10, ↓TL.ix_l11, ↓TL.ix_l12, TL.isStr, TL.flatD, TL.inD, TL.isiD, TL.tyD, TL.isNone, TL.eqv_int, TL.eqv_bool, TL.eqv_str, TL.sh_int, TL.sh_bool, TL.sz_le, TL.sz_lt, TL.Sl.held, List.map_cons, List.map_nil, List.cons_append, List.nil_append, List.append_nil, List.length_cons, List.length_nil, List.length_map, List.length_set, List.set_cons_zero, List.set_cons_succ, Nat.reduceLT, List.all_cons, List.all_nil, List.any_cons, List.any_nil, List.zip_cons_cons, List.zip_nil_left, List.zip_nil_right, List.foldl_cons, List.foldl_nil, List.getD_cons_zero, List.getD_cons_succ, List.mem_cons, List.not_mem_nil, forall_eq_or_imp, forall_eq, or_false, false_or, true_or, or_true, true_and, and_true, false_and, and_false, false_implies, implies_true, forall_const, ↓reduceIte, if_true, if_false, Bool.false_eq_true, Bool.true_and, Bool.and_true, Bool.false_and, Bool.and_false, Bool.or_false, Bool.false_or, Bool.or_true, Bool.true_or, Bool.not_true, Bool.not_false, Bool.and_eq_true, Bool.or_eq_true, Bool.not_eq_true', decide_eq_true_eq, decide_eq_false_iff_not, ne_eq, not_false_eq_true, not_true_eq_false, reduceCtorEq, decide_true, decide_false, Nat.reduceAdd, Nat.reduceLeDiff, Nat.reduceEqDiff, TL.all_isInt, TL.map_intOf, TL.all_isBool, TL.map_boolOf, TL.take_ints, TL.drop_ints, List.take_succ_cons, List.take_zero, List.drop_succ_cons, List.drop_zero, List.take_nil, List.drop_nil, TL.fmod_n, TL.fdiv_n, TL.cut_to, TL.cut_from, TL.cut_mid, Int.reduceEq, Int.reduceNe, Int.reduceNeg, Int.reduceAdd, Int.reduceMul, Int.reduceSub, Int.reduceLT, Int.reduceLE, Int.reduceGT, Int.reduceGE, Int.reducePow, Int.reduceToNat, Int.add_zero, Int.zero_add, String.reduceEq, String.reduceBEq]
  refine for_inv (fun i ρ => i ≤ p.length ∧ ∃ s2, nb s2 = true ∧ ρ = [.fz (.tuple (pL p)), .fz (frD (sumL (p.take i))), s2]) ⟨by omega, _, rfl, rfl⟩ (fun i d ρ n1 n4 hd hp' k1 k4 => ?_) (fun ρ hp' => ?_)
  · obtain ⟨hi, s2, h2, rfl⟩ := hp'
    obtain ⟨hi, rfl⟩ := pL_get2 hd
    have s := sumL_sz hp k0 i (by omega)
    have b : i * (k + 1) ≤ 20 * (k + 1) := Nat.mul_le_mul_right _ (by omega)
    simp only [cs_nb h2, ↓TL.x_var, ↓TL.x_lit, ↓TL.x_glb, ↓TL.x_tup, ↓TL.x_lst, ↓TL.x_emp, ↓TL.x_rvs, ↓TL.x_met, ↓TL.x_dc1, ↓TL.x_dc2, ↓TL.x_bin, ↓TL.x_neg, ↓TL.x_nt, ↓TL.x_cmp, ↓TL.x_chn, ↓TL.x_and, ↓TL.x_or, ↓TL.x_ife, ↓TL.x_idx, ↓TL.x_slc, ↓TL.x_call, ↓TL.x_pcall, ↓TL.x_bl1, ↓TL.x_bl2, ↓TL.x_isi, ↓TL.x_pop, ↓TL.x_lc, ↓TL.x_lc2, ↓TL.x_nil, ↓TL.x_cons, ↓TL.x_no, ↓TL.x_so, ↓TL.x_tof, ↓TL.x_tand, ↓TL.x_tor, ↓TL.x_tnt, ↓TL.x_tite, ↓TL.x_ctno, ↓TL.x_ctso, ↓TL.x_iof, ↓TL.x_irng1, ↓TL.x_irng2, ↓TL.x_irng3, ↓TL.x_ienum, ↓TL.x_izip, ↓TL.x_irev, ↓TL.s_asg_, ↓TL.s_par_, ↓TL.s_sub_, ↓TL.s_aug_, ↓TL.s_swp_, ↓TL.s_augs_, ↓TL.s_subW, ↓TL.s_exp_, ↓TL.s_app_, ↓TL.s_ite_, ↓TL.s_for_, ↓TL.s_whl_, ↓TL.s_retN_, ↓TL.s_brk_, ↓TL.s_cnt_, ↓TL.s_pas_, ↓TL.ss_nil_, ↓TL.ss_cons_, ↓TL.o_dc1, ↓TL.s_ret_dc1, ↓TL.o_dc2, ↓TL.s_ret_dc2, ↓TL.o_emp, ↓TL.s_ret_emp, ↓TL.o_rvs, ↓TL.s_ret_rvs, ↓TL.o_met, ↓TL.s_ret_met, ↓TL.o_lit, ↓TL.s_ret_lit, ↓TL.o_glb, ↓TL.s_ret_glb, ↓TL.o_tup, ↓TL.s_ret_tup, ↓TL.o_lst, ↓TL.s_ret_lst, ↓TL.o_bin, ↓TL.s_ret_bin, ↓TL.o_neg, ↓TL.s_ret_neg, ↓TL.o_nt, ↓TL.s_ret_nt, ↓TL.o_cmp, ↓TL.s_ret_cmp, ↓TL.o_chn, ↓TL.s_ret_chn, ↓TL.o_and, ↓TL.s_ret_and, ↓TL.o_or, ↓TL.s_ret_or, ↓TL.o_ife, ↓TL.s_ret_ife, ↓TL.o_idx, ↓TL.s_ret_idx, ↓TL.o_slc, ↓TL.s_ret_slc, ↓TL.o_call, ↓TL.s_ret_call, ↓TL.o_pcall, ↓TL.s_ret_pcall, ↓TL.o_bl1, ↓TL.s_ret_bl1, ↓TL.o_bl2, ↓TL.s_ret_bl2, ↓TL.o_isi, ↓TL.s_ret_isi, ↓TL.o_pop, ↓TL.s_ret_pop, ↓TL.o_lc, ↓TL.s_ret_lc, ↓TL.o_lc2, ↓TL.s_ret_lc2, ↓TL.o_var_, ↓TL.s_retv_, ↓TL.l_val, ↓TL.l_slot, ↓TL.tg_fz, ↓TL.tg_own, ↓TL.tg_tup, ↓TL.tg_nil, ↓TL.tg_cons, ↓TL.wv_fz, ↓TL.wv_own, ↓TL.wv_s, ↓TL.lk_fz, ↓TL.lk_own, ↓TL.lk_bor, ↓TL.lk_s, ↓TL.cs_s, ↓TL.cs_un, ↓TL.cs_fz, ↓TL.cs_own, ↓TL.hd_own, ↓TL.hd_bor, ↓TL.hd_s, ↓TL.sh_own, ↓TL.sh_bor, ↓TL.sh_s, ↓TL.st_0, ↓TL.st_s, ↓TL.fr_nil, ↓TL.fr_cons, ↓TL.wp_nil, ↓TL.wp_cons, ↓TL.bk_nil, ↓TL.bk_cons, ↓TL.b_addI, ↓TL.b_subI, ↓TL.b_mulI, ↓TL.b_divI, ↓TL.b_modI, ↓TL.b_powI, ↓TL.b_addS, ↓TL.b_addT, ↓TL.b_addL, ↓TL.b_mulL, ↓TL.b_mulT, ↓TL.a_add, ↓TL.a_sub, ↓TL.a_mul, ↓TL.c_Eq_int, ↓TL.c_Eq_bool, ↓TL.c_Eq_str, ↓TL.c_Eq_tuple, ↓TL.c_Eq_list, ↓TL.c_NotEq_int, ↓TL.c_NotEq_bool, ↓TL.c_NotEq_str, ↓TL.c_NotEq_tuple, ↓TL.c_NotEq_list, ↓TL.c_Lt, ↓TL.c_LtE, ↓TL.c_Gt, ↓TL.c_GtE, ↓TL.c_LtE_b, ↓TL.c_Is_b, ↓TL.c_Is_n, ↓TL.c_IsNot_b, ↓TL.c_IsNot_n, ↓TL.c_In_tuple, ↓TL.c_In_list, ↓TL.c_NotIn_tuple, ↓TL.c_NotIn_list, ↓TL.t_non, ↓TL.t_bl, ↓TL.t_int, ↓TL.t_str, ↓TL.t_lst, ↓TL.t_tup, ↓TL.i_lst, ↓TL.i_tup, ↓TL.sl_lst, ↓TL.sl_tup, ↓TL.as_i, ↓TL.as_b, ↓TL.it_l, ↓TL.it_t, ↓TL.ls_l, ↓TL.zp_n, ↓TL.zp_f, ↓TL.zp_s, ↓TL.rv_l, ↓TL.rv_t, ↓TL.m_sw, ↓TL.m_ew, ↓TL.m_ix, ↓TL.m_ixd, ↓TL.tm_ixd, ↓TL.tm_sw, ↓TL.tm_ew, ↓TL.tm_ix, ↓TL.c_Lt_t, ↓TL.f_lenL, ↓TL.f_lenT, ↓TL.f_lenS, ↓TL.f_abs, ↓TL.f_min, ↓TL.f_max, ↓TL.f_sum, ↓TL.f_all, ↓TL.f_any, ↓TL.f_sort, ↓TL.f_ssetL, ↓TL.f_ssetT, ↓TL.f_trng, ↓TL.f_denL, ↓TL.f_denT, ↓TL.f_tupL, ↓TL.f_tupT, ↓TL.f_lstL, ↓TL.f_lstT, ↓TL.f_intI, ↓TL.f_intB, ↓TL.f_str, ↓TL.g_min, ↓TL.g_max, ↓TL.rd_fz, ↓TL.rd_own, ↓TL.rs_fz, ↓TL.rs_own, ↓TL.ou_b, ↓TL.at_l0, ↓TL.at_l1, ↓TL.at_l2, ↓TL.at_l3, ↓TL.at_l4, ↓TL.at_l5, ↓TL.at_l6, ↓TL.at_l7, ↓TL.ix_l0, ↓TL.ix_l1, ↓TL.ix_l2, ↓TL.ix_l3, ↓TL.ix_l4, ↓TL.ix_l5, ↓TL.ix_l6, ↓TL.ix_l7, ↓TL.ix_l8, ↓TL.ix_l9, ↓TL.ix_l10, ↓TL.ix_l11, ↓TL.ix_l12, TL.isStr, TL.flatD, TL.inD, TL.isiD, TL.tyD, TL.isNone, TL.eqv_int, TL.eqv_bool, TL.eqv_str, TL.sh_int, TL.sh_bool, TL.sz_le, TL.sz_lt, TL.Sl.held, List.map_cons, List.map_nil, List.cons_append, List.nil_append, List.append_nil, List.length_cons, List.length_nil, List.length_map, List.length_set, List.set_cons_zero, List.set_cons_succ, Nat.reduceLT, List.all_cons, List.all_nil, List.any_cons, List.any_nil, List.zip_cons_cons, List.zip_nil_left, List.zip_nil_right, List.foldl_cons, List.foldl_nil, List.getD_cons_zero, List.getD_cons_succ, List.mem_cons, List.not_mem_nil, forall_eq_or_imp, forall_eq, or_false, false_or, true_or, or_true, true_and, and_true, false_and, and_false, false_implies, implies_true, forall_const, ↓reduceIte, if_true, if_false, Bool.false_eq_true, Bool.true_and, Bool.and_true, Bool.false_and, Bool.and_false, Bool.or_false, Bool.false_or, Bool.or_true, Bool.true_or, Bool.not_true, Bool.not_false, Bool.and_eq_true, Bool.or_eq_true, Bool.not_eq_true', decide_eq_true_eq, decide_eq_false_iff_not, ne_eq, not_false_eq_true, not_true_eq_false, reduceCtorEq, decide_true, decide_false, Nat.reduceAdd, Nat.reduceLeDiff, Nat.reduceEqDiff, TL.all_isInt, TL.map_intOf, TL.all_isBool, TL.map_boolOf, TL.take_ints, TL.drop_ints, List.take_succ_cons, List.take_zero, List.drop_succ_cons, List.drop_zero, List.take_nil, List.drop_nil, TL.fmod_n, TL.fdiv_n, TL.cut_to, TL.cut_from, TL.cut_mid, Int.reduceEq, Int.reduceNe, Int.reduceNeg, Int.reduceAdd, Int.reduceMul, Int.reduceSub, Int.reduceLT, Int.reduceLE, Int.reduceGT, Int.reduceGE, Int.reducePow, Int.reduceToNat, Int.add_zero, Int.zero_add, String.reduceEq, String.reduceBEq]
    refine plus_ok (k := 21 * (k + 1)) n _ _ (s.mono (by omega)) ((hp.getD k0 i).mono (by omega)) (by omega) _ ?_
    rw [← sumL_take hi]
    walk_at "S"
    exact k1 _ ⟨by omega, _, rfl, rfl⟩
  · obtain ⟨hi, s2, h2, rfl⟩ := hp'
    rw [pL_len, List.take_length]
    walk_at "S"
    exact q
theorem owed_ok (n : Nat) (b : Bond) (h : b.Ok) (k : Nat) (Q : RV → List D → Prop) (q : Q (.fz (frD (sumL (b.bs.drop k)))) []) : run tb.G pr (n + 5) "owed" [b.d, .int k] Q := by
  rw [e_owed]; unfold b_owed Bond.d
  walk_at "S"
  rw [cut_from (by omega), Int.toNat_natCast, pL_drop]
  exact sum_all_ok n (k := 32) _ (fun a m => h.bs a (List.mem_of_mem_drop m)) (by decide) (by decide) (by rw [List.length_drop]; have := h.l1; omega) _ q
theorem part_of_ok (n : Nat) (b : Bond) (h : b.Ok) (k : Nat) (hk : k < b.bs.length) (day : Int) (hd : InD day) (Q : RV → List D → Prop) (q : Q (.fz (frD (partR b k day))) []) : run tb.G pr (n + 6) "part_of" [b.d, .int k, .int day] Q := by
  rw [e_part_of]; unfold b_part_of Bond.d
  have i0 := h.inD k (by rw [h.len]; omega)
  simp only [at_i (show k < b.ds.length by rw [h.len]; omega), at_i1 (show k + 1 < b.ds.length by rw [h.len]; omega), ↓x_glb (show tb.G "BY_PERIOD" = some (.str "period") from rfl), ↓TL.x_var, ↓TL.x_lit, ↓TL.x_glb, ↓TL.x_tup, ↓TL.x_lst, ↓TL.x_emp, ↓TL.x_rvs, ↓TL.x_met, ↓TL.x_dc1, ↓TL.x_dc2, ↓TL.x_bin, ↓TL.x_neg, ↓TL.x_nt, ↓TL.x_cmp, ↓TL.x_chn, ↓TL.x_and, ↓TL.x_or, ↓TL.x_ife, ↓TL.x_idx, ↓TL.x_slc, ↓TL.x_call, ↓TL.x_pcall, ↓TL.x_bl1, ↓TL.x_bl2, ↓TL.x_isi, ↓TL.x_pop, ↓TL.x_lc, ↓TL.x_lc2, ↓TL.x_nil, ↓TL.x_cons, ↓TL.x_no, ↓TL.x_so, ↓TL.x_tof, ↓TL.x_tand, ↓TL.x_tor, ↓TL.x_tnt, ↓TL.x_tite, ↓TL.x_ctno, ↓TL.x_ctso, ↓TL.x_iof, ↓TL.x_irng1, ↓TL.x_irng2, ↓TL.x_irng3, ↓TL.x_ienum, ↓TL.x_izip, ↓TL.x_irev, ↓TL.s_asg_, ↓TL.s_par_, ↓TL.s_sub_, ↓TL.s_aug_, ↓TL.s_swp_, ↓TL.s_augs_, ↓TL.s_subW, ↓TL.s_exp_, ↓TL.s_app_, ↓TL.s_ite_, ↓TL.s_for_, ↓TL.s_whl_, ↓TL.s_retN_, ↓TL.s_brk_, ↓TL.s_cnt_, ↓TL.s_pas_, ↓TL.ss_nil_, ↓TL.ss_cons_, ↓TL.o_dc1, ↓TL.s_ret_dc1, ↓TL.o_dc2, ↓TL.s_ret_dc2, ↓TL.o_emp, ↓TL.s_ret_emp, ↓TL.o_rvs, ↓TL.s_ret_rvs, ↓TL.o_met, ↓TL.s_ret_met, ↓TL.o_lit, ↓TL.s_ret_lit, ↓TL.o_glb, ↓TL.s_ret_glb, ↓TL.o_tup, ↓TL.s_ret_tup, ↓TL.o_lst, ↓TL.s_ret_lst, ↓TL.o_bin, ↓TL.s_ret_bin, ↓TL.o_neg, ↓TL.s_ret_neg, ↓TL.o_nt, ↓TL.s_ret_nt, ↓TL.o_cmp, ↓TL.s_ret_cmp, ↓TL.o_chn, ↓TL.s_ret_chn, ↓TL.o_and, ↓TL.s_ret_and, ↓TL.o_or, ↓TL.s_ret_or, ↓TL.o_ife, ↓TL.s_ret_ife, ↓TL.o_idx, ↓TL.s_ret_idx, ↓TL.o_slc, ↓TL.s_ret_slc, ↓TL.o_call, ↓TL.s_ret_call, ↓TL.o_pcall, ↓TL.s_ret_pcall, ↓TL.o_bl1, ↓TL.s_ret_bl1, ↓TL.o_bl2, ↓TL.s_ret_bl2, ↓TL.o_isi, ↓TL.s_ret_isi, ↓TL.o_pop, ↓TL.s_ret_pop, ↓TL.o_lc, ↓TL.s_ret_lc, ↓TL.o_lc2, ↓TL.s_ret_lc2, ↓TL.o_var_, ↓TL.s_retv_, ↓TL.l_val, ↓TL.l_slot, ↓TL.tg_fz, ↓TL.tg_own, ↓TL.tg_tup, ↓TL.tg_nil, ↓TL.tg_cons, ↓TL.wv_fz, ↓TL.wv_own, ↓TL.wv_s, ↓TL.lk_fz, ↓TL.lk_own, ↓TL.lk_bor, ↓TL.lk_s, ↓TL.cs_s, ↓TL.cs_un, ↓TL.cs_fz, ↓TL.cs_own, ↓TL.hd_own, ↓TL.hd_bor, ↓TL.hd_s, ↓TL.sh_own, ↓TL.sh_bor, ↓TL.sh_s, ↓TL.st_0, ↓TL.st_s, ↓TL.fr_nil, ↓TL.fr_cons, ↓TL.wp_nil, ↓TL.wp_cons, ↓TL.bk_nil, ↓TL.bk_cons, ↓TL.b_addI, ↓TL.b_subI, ↓TL.b_mulI, ↓TL.b_divI, ↓TL.b_modI, ↓TL.b_powI, ↓TL.b_addS, ↓TL.b_addT, ↓TL.b_addL, ↓TL.b_mulL, ↓TL.b_mulT, ↓TL.a_add, ↓TL.a_sub, ↓TL.a_mul, ↓TL.c_Eq_int, ↓TL.c_Eq_bool, ↓TL.c_Eq_str, ↓TL.c_Eq_tuple, ↓TL.c_Eq_list, ↓TL.c_NotEq_int, ↓TL.c_NotEq_bool, ↓TL.c_NotEq_str, ↓TL.c_NotEq_tuple, ↓TL.c_NotEq_list, ↓TL.c_Lt, ↓TL.c_LtE, ↓TL.c_Gt, ↓TL.c_GtE, ↓TL.c_LtE_b, ↓TL.c_Is_b, ↓TL.c_Is_n, ↓TL.c_IsNot_b, ↓TL.c_IsNot_n, ↓TL.c_In_tuple, ↓TL.c_In_list, ↓TL.c_NotIn_tuple, ↓TL.c_NotIn_list, ↓TL.t_non, ↓TL.t_bl, ↓TL.t_int, ↓TL.t_str, ↓TL.t_lst, ↓TL.t_tup, ↓TL.i_lst, ↓TL.i_tup, ↓TL.sl_lst, ↓TL.sl_tup, ↓TL.as_i, ↓TL.as_b, ↓TL.it_l, ↓TL.it_t, ↓TL.ls_l, ↓TL.zp_n, ↓TL.zp_f, ↓TL.zp_s, ↓TL.rv_l, ↓TL.rv_t, ↓TL.m_sw, ↓TL.m_ew, ↓TL.m_ix, ↓TL.m_ixd, ↓TL.tm_ixd, ↓TL.tm_sw, ↓TL.tm_ew, ↓TL.tm_ix, ↓TL.c_Lt_t, ↓TL.f_lenL, ↓TL.f_lenT, ↓TL.f_lenS, ↓TL.f_abs, ↓TL.f_min, ↓TL.f_max, ↓TL.f_sum, ↓TL.f_all, ↓TL.f_any, ↓TL.f_sort, ↓TL.f_ssetL, ↓TL.f_ssetT, ↓TL.f_trng, ↓TL.f_denL, ↓TL.f_denT, ↓TL.f_tupL, ↓TL.f_tupT, ↓TL.f_lstL, ↓TL.f_lstT, ↓TL.f_intI, ↓TL.f_intB, ↓TL.f_str, ↓TL.g_min, ↓TL.g_max, ↓TL.rd_fz, ↓TL.rd_own, ↓TL.rs_fz, ↓TL.rs_own, ↓TL.ou_b, ↓TL.at_l0, ↓TL.at_l1, ↓TL.at_l2, ↓TL.at_l3, ↓TL.at_l4, ↓TL.at_l5, ↓TL.at_l6, ↓TL.at_l7, ↓TL.ix_l0, ↓TL.ix_l1, ↓TL.ix_l2, ↓TL.ix_l3, ↓TL.ix_l4, ↓TL.ix_l5, ↓TL.ix_l6, ↓TL.ix_l7, ↓TL.ix_l8, ↓TL.ix_l9, ↓TL.ix_l10, ↓TL.ix_l11, ↓TL.ix_l12, TL.isStr, TL.flatD, TL.inD, TL.isiD, TL.tyD, TL.isNone, TL.eqv_int, TL.eqv_bool, TL.eqv_str, TL.sh_int, TL.sh_bool, TL.sz_le, TL.sz_lt, TL.Sl.held, List.map_cons, List.map_nil, List.cons_append, List.nil_append, List.append_nil, List.length_cons, List.length_nil, List.length_map, List.length_set, List.set_cons_zero, List.set_cons_succ, Nat.reduceLT, List.all_cons, List.all_nil, List.any_cons, List.any_nil, List.zip_cons_cons, List.zip_nil_left, List.zip_nil_right, List.foldl_cons, List.foldl_nil, List.getD_cons_zero, List.getD_cons_succ, List.mem_cons, List.not_mem_nil, forall_eq_or_imp, forall_eq, or_false, false_or, true_or, or_true, true_and, and_true, false_and, and_false, false_implies, implies_true, forall_const, ↓reduceIte, if_true, if_false, Bool.false_eq_true, Bool.true_and, Bool.and_true, Bool.false_and, Bool.and_false, Bool.or_false, Bool.false_or, Bool.or_true, Bool.true_or, Bool.not_true, Bool.not_false, Bool.and_eq_true, Bool.or_eq_true, Bool.not_eq_true', decide_eq_true_eq, decide_eq_false_iff_not, ne_eq, not_false_eq_true, not_true_eq_false, reduceCtorEq, decide_true, decide_false, Nat.reduceAdd, Nat.reduceLeDiff, Nat.reduceEqDiff, TL.all_isInt, TL.map_intOf, TL.all_isBool, TL.map_boolOf, TL.take_ints, TL.drop_ints, List.take_succ_cons, List.take_zero, List.drop_succ_cons, List.drop_zero, List.take_nil, List.drop_nil, TL.fmod_n, TL.fdiv_n, TL.cut_to, TL.cut_from, TL.cut_mid, Int.reduceEq, Int.reduceNe, Int.reduceNeg, Int.reduceAdd, Int.reduceMul, Int.reduceSub, Int.reduceLT, Int.reduceLE, Int.reduceGT, Int.reduceGE, Int.reducePow, Int.reduceToNat, Int.add_zero, Int.zero_add, String.reduceEq, String.reduceBEq]
  unfold partR at q
  by_cases w : b.word = "period"
  · rw [if_pos w] at q ⊢
    have pb := part_bot h hk
    have u := h.up k (by rw [h.len]; omega)
    have m0 := h.m0
    have m1 := h.m1
    refine ⟨mok (by omega) (by omega) (by omega) (by omega), ?_⟩
    exact fraction_ok (n + 3) (k := 18) _ _ (szD hd i0) (by unfold Sz; omega) (by decide) (by omega) _ q
  · rw [if_neg w] at q ⊢
    exact count_ok n b.word _ _ i0 hd _ q
theorem interest_ok (n : Nat) (b : Bond) (h : b.Ok) (k : Nat) (hk : k < b.bs.length) (day : Int) (hd : InD day) (Q : RV → List D → Prop) (q : Q (.fz (frD (intR b k day))) []) : run tb.G pr (n + 7) "interest" [b.d, .int k, .int day] Q := by
  rw [e_interest]; unfold b_interest
  walk_at "S"
  refine owed_ok (n + 1) b h k _ ?_
  have e : b.d = .tuple [.tuple (b.ds.map .int), frD b.rate, .int b.m, .str b.word, .tuple (pL b.bs)] := rfl
  have s := sumL_sz' (m := 20) (l := b.bs.drop k) (fun a m => h.bs a (List.mem_of_mem_drop m)) (by decide) (by rw [List.length_drop]; have := h.l1; omega)
  rw [e]
  walk_at "S"
  refine times_ok (k := 700) (n + 3) _ _ (s.mono (by decide)) (h.rate.mono (by decide)) (by decide) _ ?_
  walk_at "S"
  rw [← e]
  refine part_of_ok n b h k hk day hd _ ?_
  walk_at "S"
  exact times_ok (k := 700) (n + 3) _ _ ((s.mul h.rate).mono (by decide)) ((partR_sz h hk hd).mono (by decide)) (by decide) _ q
theorem flD_snoc (b : Bond) (i : Nat) : (List.range i).map (flowD b) ++ [flowD b i] = (List.range (i + 1)).map (flowD b) := by rw [List.range_succ]; simp
theorem flows_ok (n : Nat) (b : Bond) (h : b.Ok) (Q : RV → List D → Prop) (q : Q (.fz (.tuple (flD b))) []) : run tb.G pr (n + 8) "flows" [b.d] Q := by
  rw [e_flows]; unfold b_flows
  have e : b.d = .tuple [.tuple (b.ds.map .int), frD b.rate, .int b.m, .str b.word, .tuple (pL b.bs)] := rfl
  have l1 := h.l1
  rw [e]
  walk_at "S"
  refine for_inv (fun i ρ => i ≤ b.bs.length ∧ ∃ s2 s3, nb s2 = true ∧ nb s3 = true ∧ ρ = [.fz b.d, .own ((List.range i).map (flowD b)), s2, s3]) ⟨by omega, _, _, rfl, rfl, rfl⟩ (fun i d ρ n1 n4 hd hp' k1 k4 => ?_) (fun ρ hp' => ?_)
  · obtain ⟨hi, s2, s3, h2, h3, rfl⟩ := hp'
    obtain ⟨x, hx, rfl⟩ := enum_get hd
    rw [List.getElem?_map, List.getElem?_drop] at hx
    obtain ⟨hj, rfl⟩ : 1 + i < b.ds.length ∧ x = .int (b.ds.getD (i + 1) 0) := by
      cases e : b.ds[1 + i]? with
      | none => rw [e] at hx; cases hx
      | some y =>
        rw [e] at hx
        cases hx
        refine ⟨(List.getElem?_eq_some_iff.mp e).1, ?_⟩
        rw [Nat.add_comm] at e
        rw [List.getD_eq_getElem?_getD, e]; rfl
    have hi : i < b.bs.length := by have := h.len; omega
    have id := h.inD (i + 1) (by omega)
    simp only [cs_nb h2, cs_nb h3, ↓TL.x_var, ↓TL.x_lit, ↓TL.x_glb, ↓TL.x_tup, ↓TL.x_lst, ↓TL.x_emp, ↓TL.x_rvs, ↓TL.x_met, ↓TL.x_dc1, ↓TL.x_dc2, ↓TL.x_bin, ↓TL.x_neg, ↓TL.x_nt, ↓TL.x_cmp, ↓TL.x_chn, ↓TL.x_and, ↓TL.x_or, ↓TL.x_ife, ↓TL.x_idx, ↓TL.x_slc, ↓TL.x_call, ↓TL.x_pcall, ↓TL.x_bl1, ↓TL.x_bl2, ↓TL.x_isi, ↓TL.x_pop, ↓TL.x_lc, ↓TL.x_lc2, ↓TL.x_nil, ↓TL.x_cons, ↓TL.x_no, ↓TL.x_so, ↓TL.x_tof, ↓TL.x_tand, ↓TL.x_tor, ↓TL.x_tnt, ↓TL.x_tite, ↓TL.x_ctno, ↓TL.x_ctso, ↓TL.x_iof, ↓TL.x_irng1, ↓TL.x_irng2, ↓TL.x_irng3, ↓TL.x_ienum, ↓TL.x_izip, ↓TL.x_irev, ↓TL.s_asg_, ↓TL.s_par_, ↓TL.s_sub_, ↓TL.s_aug_, ↓TL.s_swp_, ↓TL.s_augs_, ↓TL.s_subW, ↓TL.s_exp_, ↓TL.s_app_, ↓TL.s_ite_, ↓TL.s_for_, ↓TL.s_whl_, ↓TL.s_retN_, ↓TL.s_brk_, ↓TL.s_cnt_, ↓TL.s_pas_, ↓TL.ss_nil_, ↓TL.ss_cons_, ↓TL.o_dc1, ↓TL.s_ret_dc1, ↓TL.o_dc2, ↓TL.s_ret_dc2, ↓TL.o_emp, ↓TL.s_ret_emp, ↓TL.o_rvs, ↓TL.s_ret_rvs, ↓TL.o_met, ↓TL.s_ret_met, ↓TL.o_lit, ↓TL.s_ret_lit, ↓TL.o_glb, ↓TL.s_ret_glb, ↓TL.o_tup, ↓TL.s_ret_tup, ↓TL.o_lst, ↓TL.s_ret_lst, ↓TL.o_bin, ↓TL.s_ret_bin, ↓TL.o_neg, ↓TL.s_ret_neg, ↓TL.o_nt, ↓TL.s_ret_nt, ↓TL.o_cmp, ↓TL.s_ret_cmp, ↓TL.o_chn, ↓TL.s_ret_chn, ↓TL.o_and, ↓TL.s_ret_and, ↓TL.o_or, ↓TL.s_ret_or, ↓TL.o_ife, ↓TL.s_ret_ife, ↓TL.o_idx, ↓TL.s_ret_idx, ↓TL.o_slc, ↓TL.s_ret_slc, ↓TL.o_call, ↓TL.s_ret_call, ↓TL.o_pcall, ↓TL.s_ret_pcall, ↓TL.o_bl1, ↓TL.s_ret_bl1, ↓TL.o_bl2, ↓TL.s_ret_bl2, ↓TL.o_isi, ↓TL.s_ret_isi, ↓TL.o_pop, ↓TL.s_ret_pop, ↓TL.o_lc, ↓TL.s_ret_lc, ↓TL.o_lc2, ↓TL.s_ret_lc2, ↓TL.o_var_, ↓TL.s_retv_, ↓TL.l_val, ↓TL.l_slot, ↓TL.tg_fz, ↓TL.tg_own, ↓TL.tg_tup, ↓TL.tg_nil, ↓TL.tg_cons, ↓TL.wv_fz, ↓TL.wv_own, ↓TL.wv_s, ↓TL.lk_fz, ↓TL.lk_own, ↓TL.lk_bor, ↓TL.lk_s, ↓TL.cs_s, ↓TL.cs_un, ↓TL.cs_fz, ↓TL.cs_own, ↓TL.hd_own, ↓TL.hd_bor, ↓TL.hd_s, ↓TL.sh_own, ↓TL.sh_bor, ↓TL.sh_s, ↓TL.st_0, ↓TL.st_s, ↓TL.fr_nil, ↓TL.fr_cons, ↓TL.wp_nil, ↓TL.wp_cons, ↓TL.bk_nil, ↓TL.bk_cons, ↓TL.b_addI, ↓TL.b_subI, ↓TL.b_mulI, ↓TL.b_divI, ↓TL.b_modI, ↓TL.b_powI, ↓TL.b_addS, ↓TL.b_addT, ↓TL.b_addL, ↓TL.b_mulL, ↓TL.b_mulT, ↓TL.a_add, ↓TL.a_sub, ↓TL.a_mul, ↓TL.c_Eq_int, ↓TL.c_Eq_bool, ↓TL.c_Eq_str, ↓TL.c_Eq_tuple, ↓TL.c_Eq_list, ↓TL.c_NotEq_int, ↓TL.c_NotEq_bool, ↓TL.c_NotEq_str, ↓TL.c_NotEq_tuple, ↓TL.c_NotEq_list, ↓TL.c_Lt, ↓TL.c_LtE, ↓TL.c_Gt, ↓TL.c_GtE, ↓TL.c_LtE_b, ↓TL.c_Is_b, ↓TL.c_Is_n, ↓TL.c_IsNot_b, ↓TL.c_IsNot_n, ↓TL.c_In_tuple, ↓TL.c_In_list, ↓TL.c_NotIn_tuple, ↓TL.c_NotIn_list, ↓TL.t_non, ↓TL.t_bl, ↓TL.t_int, ↓TL.t_str, ↓TL.t_lst, ↓TL.t_tup, ↓TL.i_lst, ↓TL.i_tup, ↓TL.sl_lst, ↓TL.sl_tup, ↓TL.as_i, ↓TL.as_b, ↓TL.it_l, ↓TL.it_t, ↓TL.ls_l, ↓TL.zp_n, ↓TL.zp_f, ↓TL.zp_s, ↓TL.rv_l, ↓TL.rv_t, ↓TL.m_sw, ↓TL.m_ew, ↓TL.m_ix, ↓TL.m_ixd, ↓TL.tm_ixd, ↓TL.tm_sw, ↓TL.tm_ew, ↓TL.tm_ix, ↓TL.c_Lt_t, ↓TL.f_lenL, ↓TL.f_lenT, ↓TL.f_lenS, ↓TL.f_abs, ↓TL.f_min, ↓TL.f_max, ↓TL.f_sum, ↓TL.f_all, ↓TL.f_any, ↓TL.f_sort, ↓TL.f_ssetL, ↓TL.f_ssetT, ↓TL.f_trng, ↓TL.f_denL, ↓TL.f_denT, ↓TL.f_tupL, ↓TL.f_tupT, ↓TL.f_lstL, ↓TL.f_lstT, ↓TL.f_intI, ↓TL.f_intB, ↓TL.f_str, ↓TL.g_min, ↓TL.g_max, ↓TL.rd_fz, ↓TL.rd_own, ↓TL.rs_fz, ↓TL.rs_own, ↓TL.ou_b, ↓TL.at_l0, ↓TL.at_l1, ↓TL.at_l2, ↓TL.at_l3, ↓TL.at_l4, ↓TL.at_l5, ↓TL.at_l6, ↓TL.at_l7, ↓TL.ix_l0, ↓TL.ix_l1, ↓TL.ix_l2, ↓TL.ix_l3, ↓TL.ix_l4, ↓TL.ix_l5, ↓TL.ix_l6, ↓TL.ix_l7, ↓TL.ix_l8, ↓TL.ix_l9, ↓TL.ix_l10, ↓TL.ix_l11, ↓TL.ix_l12, TL.isStr, TL.flatD, TL.inD, TL.isiD, TL.tyD, TL.isNone, TL.eqv_int, TL.eqv_bool, TL.eqv_str, TL.sh_int, TL.sh_bool, TL.sz_le, TL.sz_lt, TL.Sl.held, List.map_cons, List.map_nil, List.cons_append, List.nil_append, List.append_nil, List.length_cons, List.length_nil, List.length_map, List.length_set, List.set_cons_zero, List.set_cons_succ, Nat.reduceLT, List.all_cons, List.all_nil, List.any_cons, List.any_nil, List.zip_cons_cons, List.zip_nil_left, List.zip_nil_right, List.foldl_cons, List.foldl_nil, List.getD_cons_zero, List.getD_cons_succ, List.mem_cons, List.not_mem_nil, forall_eq_or_imp, forall_eq, or_false, false_or, true_or, or_true, true_and, and_true, false_and, and_false, false_implies, implies_true, forall_const, ↓reduceIte, if_true, if_false, Bool.false_eq_true, Bool.true_and, Bool.and_true, Bool.false_and, Bool.and_false, Bool.or_false, Bool.false_or, Bool.or_true, Bool.true_or, Bool.not_true, Bool.not_false, Bool.and_eq_true, Bool.or_eq_true, Bool.not_eq_true', decide_eq_true_eq, decide_eq_false_iff_not, ne_eq, not_false_eq_true, not_true_eq_false, reduceCtorEq, decide_true, decide_false, Nat.reduceAdd, Nat.reduceLeDiff, Nat.reduceEqDiff, TL.all_isInt, TL.map_intOf, TL.all_isBool, TL.map_boolOf, TL.take_ints, TL.drop_ints, List.take_succ_cons, List.take_zero, List.drop_succ_cons, List.drop_zero, List.take_nil, List.drop_nil, TL.fmod_n, TL.fdiv_n, TL.cut_to, TL.cut_from, TL.cut_mid, Int.reduceEq, Int.reduceNe, Int.reduceNeg, Int.reduceAdd, Int.reduceMul, Int.reduceSub, Int.reduceLT, Int.reduceLE, Int.reduceGT, Int.reduceGE, Int.reducePow, Int.reduceToNat, Int.add_zero, Int.zero_add, String.reduceEq, String.reduceBEq]
    refine interest_ok n b h i hi _ id _ ?_
    rw [e]
    simp only [at_p hi, ↓TL.x_var, ↓TL.x_lit, ↓TL.x_glb, ↓TL.x_tup, ↓TL.x_lst, ↓TL.x_emp, ↓TL.x_rvs, ↓TL.x_met, ↓TL.x_dc1, ↓TL.x_dc2, ↓TL.x_bin, ↓TL.x_neg, ↓TL.x_nt, ↓TL.x_cmp, ↓TL.x_chn, ↓TL.x_and, ↓TL.x_or, ↓TL.x_ife, ↓TL.x_idx, ↓TL.x_slc, ↓TL.x_call, ↓TL.x_pcall, ↓TL.x_bl1, ↓TL.x_bl2, ↓TL.x_isi, ↓TL.x_pop, ↓TL.x_lc, ↓TL.x_lc2, ↓TL.x_nil, ↓TL.x_cons, ↓TL.x_no, ↓TL.x_so, ↓TL.x_tof, ↓TL.x_tand, ↓TL.x_tor, ↓TL.x_tnt, ↓TL.x_tite, ↓TL.x_ctno, ↓TL.x_ctso, ↓TL.x_iof, ↓TL.x_irng1, ↓TL.x_irng2, ↓TL.x_irng3, ↓TL.x_ienum, ↓TL.x_izip, ↓TL.x_irev, ↓TL.s_asg_, ↓TL.s_par_, ↓TL.s_sub_, ↓TL.s_aug_, ↓TL.s_swp_, ↓TL.s_augs_, ↓TL.s_subW, ↓TL.s_exp_, ↓TL.s_app_, ↓TL.s_ite_, ↓TL.s_for_, ↓TL.s_whl_, ↓TL.s_retN_, ↓TL.s_brk_, ↓TL.s_cnt_, ↓TL.s_pas_, ↓TL.ss_nil_, ↓TL.ss_cons_, ↓TL.o_dc1, ↓TL.s_ret_dc1, ↓TL.o_dc2, ↓TL.s_ret_dc2, ↓TL.o_emp, ↓TL.s_ret_emp, ↓TL.o_rvs, ↓TL.s_ret_rvs, ↓TL.o_met, ↓TL.s_ret_met, ↓TL.o_lit, ↓TL.s_ret_lit, ↓TL.o_glb, ↓TL.s_ret_glb, ↓TL.o_tup, ↓TL.s_ret_tup, ↓TL.o_lst, ↓TL.s_ret_lst, ↓TL.o_bin, ↓TL.s_ret_bin, ↓TL.o_neg, ↓TL.s_ret_neg, ↓TL.o_nt, ↓TL.s_ret_nt, ↓TL.o_cmp, ↓TL.s_ret_cmp, ↓TL.o_chn, ↓TL.s_ret_chn, ↓TL.o_and, ↓TL.s_ret_and, ↓TL.o_or, ↓TL.s_ret_or, ↓TL.o_ife, ↓TL.s_ret_ife, ↓TL.o_idx, ↓TL.s_ret_idx, ↓TL.o_slc, ↓TL.s_ret_slc, ↓TL.o_call, ↓TL.s_ret_call, ↓TL.o_pcall, ↓TL.s_ret_pcall, ↓TL.o_bl1, ↓TL.s_ret_bl1, ↓TL.o_bl2, ↓TL.s_ret_bl2, ↓TL.o_isi, ↓TL.s_ret_isi, ↓TL.o_pop, ↓TL.s_ret_pop, ↓TL.o_lc, ↓TL.s_ret_lc, ↓TL.o_lc2, ↓TL.s_ret_lc2, ↓TL.o_var_, ↓TL.s_retv_, ↓TL.l_val, ↓TL.l_slot, ↓TL.tg_fz, ↓TL.tg_own, ↓TL.tg_tup, ↓TL.tg_nil, ↓TL.tg_cons, ↓TL.wv_fz, ↓TL.wv_own, ↓TL.wv_s, ↓TL.lk_fz, ↓TL.lk_own, ↓TL.lk_bor, ↓TL.lk_s, ↓TL.cs_s, ↓TL.cs_un, ↓TL.cs_fz, ↓TL.cs_own, ↓TL.hd_own, ↓TL.hd_bor, ↓TL.hd_s, ↓TL.sh_own, ↓TL.sh_bor, ↓TL.sh_s, ↓TL.st_0, ↓TL.st_s, ↓TL.fr_nil, ↓TL.fr_cons, ↓TL.wp_nil, ↓TL.wp_cons, ↓TL.bk_nil, ↓TL.bk_cons, ↓TL.b_addI, ↓TL.b_subI, ↓TL.b_mulI, ↓TL.b_divI, ↓TL.b_modI, ↓TL.b_powI, ↓TL.b_addS, ↓TL.b_addT, ↓TL.b_addL, ↓TL.b_mulL, ↓TL.b_mulT, ↓TL.a_add, ↓TL.a_sub, ↓TL.a_mul, ↓TL.c_Eq_int, ↓TL.c_Eq_bool, ↓TL.c_Eq_str, ↓TL.c_Eq_tuple, ↓TL.c_Eq_list, ↓TL.c_NotEq_int, ↓TL.c_NotEq_bool, ↓TL.c_NotEq_str, ↓TL.c_NotEq_tuple, ↓TL.c_NotEq_list, ↓TL.c_Lt, ↓TL.c_LtE, ↓TL.c_Gt, ↓TL.c_GtE, ↓TL.c_LtE_b, ↓TL.c_Is_b, ↓TL.c_Is_n, ↓TL.c_IsNot_b, ↓TL.c_IsNot_n, ↓TL.c_In_tuple, ↓TL.c_In_list, ↓TL.c_NotIn_tuple, ↓TL.c_NotIn_list, ↓TL.t_non, ↓TL.t_bl, ↓TL.t_int, ↓TL.t_str, ↓TL.t_lst, ↓TL.t_tup, ↓TL.i_lst, ↓TL.i_tup, ↓TL.sl_lst, ↓TL.sl_tup, ↓TL.as_i, ↓TL.as_b, ↓TL.it_l, ↓TL.it_t, ↓TL.ls_l, ↓TL.zp_n, ↓TL.zp_f, ↓TL.zp_s, ↓TL.rv_l, ↓TL.rv_t, ↓TL.m_sw, ↓TL.m_ew, ↓TL.m_ix, ↓TL.m_ixd, ↓TL.tm_ixd, ↓TL.tm_sw, ↓TL.tm_ew, ↓TL.tm_ix, ↓TL.c_Lt_t, ↓TL.f_lenL, ↓TL.f_lenT, ↓TL.f_lenS, ↓TL.f_abs, ↓TL.f_min, ↓TL.f_max, ↓TL.f_sum, ↓TL.f_all, ↓TL.f_any, ↓TL.f_sort, ↓TL.f_ssetL, ↓TL.f_ssetT, ↓TL.f_trng, ↓TL.f_denL, ↓TL.f_denT, ↓TL.f_tupL, ↓TL.f_tupT, ↓TL.f_lstL, ↓TL.f_lstT, ↓TL.f_intI, ↓TL.f_intB, ↓TL.f_str, ↓TL.g_min, ↓TL.g_max, ↓TL.rd_fz, ↓TL.rd_own, ↓TL.rs_fz, ↓TL.rs_own, ↓TL.ou_b, ↓TL.at_l0, ↓TL.at_l1, ↓TL.at_l2, ↓TL.at_l3, ↓TL.at_l4, ↓TL.at_l5, ↓TL.at_l6, ↓TL.at_l7, ↓TL.ix_l0, ↓TL.ix_l1, ↓TL.ix_l2, ↓TL.ix_l3, ↓TL.ix_l4, ↓TL.ix_l5, ↓TL.ix_l6, ↓TL.ix_l7, ↓TL.ix_l8, ↓TL.ix_l9, ↓TL.ix_l10, ↓TL.ix_l11, ↓TL.ix_l12, TL.isStr, TL.flatD, TL.inD, TL.isiD, TL.tyD, TL.isNone, TL.eqv_int, TL.eqv_bool, TL.eqv_str, TL.sh_int, TL.sh_bool, TL.sz_le, TL.sz_lt, TL.Sl.held, List.map_cons, List.map_nil, List.cons_append, List.nil_append, List.append_nil, List.length_cons, List.length_nil, List.length_map, List.length_set, List.set_cons_zero, List.set_cons_succ, Nat.reduceLT, List.all_cons, List.all_nil, List.any_cons, List.any_nil, List.zip_cons_cons, List.zip_nil_left, List.zip_nil_right, List.foldl_cons, List.foldl_nil, List.getD_cons_zero, List.getD_cons_succ, List.mem_cons, List.not_mem_nil, forall_eq_or_imp, forall_eq, or_false, false_or, true_or, or_true, true_and, and_true, false_and, and_false, false_implies, implies_true, forall_const, ↓reduceIte, if_true, if_false, Bool.false_eq_true, Bool.true_and, Bool.and_true, Bool.false_and, Bool.and_false, Bool.or_false, Bool.false_or, Bool.or_true, Bool.true_or, Bool.not_true, Bool.not_false, Bool.and_eq_true, Bool.or_eq_true, Bool.not_eq_true', decide_eq_true_eq, decide_eq_false_iff_not, ne_eq, not_false_eq_true, not_true_eq_false, reduceCtorEq, decide_true, decide_false, Nat.reduceAdd, Nat.reduceLeDiff, Nat.reduceEqDiff, TL.all_isInt, TL.map_intOf, TL.all_isBool, TL.map_boolOf, TL.take_ints, TL.drop_ints, List.take_succ_cons, List.take_zero, List.drop_succ_cons, List.drop_zero, List.take_nil, List.drop_nil, TL.fmod_n, TL.fdiv_n, TL.cut_to, TL.cut_from, TL.cut_mid, Int.reduceEq, Int.reduceNe, Int.reduceNeg, Int.reduceAdd, Int.reduceMul, Int.reduceSub, Int.reduceLT, Int.reduceLE, Int.reduceGT, Int.reduceGE, Int.reducePow, Int.reduceToNat, Int.add_zero, Int.zero_add, String.reduceEq, String.reduceBEq]
    refine plus_ok (k := 700) (n + 4) _ _ ((intR_sz h hi id).mono (by decide)) ((h.bs.getD (by decide) i).mono (by decide)) (by decide) _ ?_
    walk_at "S"
    refine ⟨szl (by simp; omega), k1 _ ⟨by omega, .fz (.int i), .fz (.int (b.ds.getD (i + 1) 0)), rfl, rfl, ?_⟩⟩
    rw [← flD_snoc, e]; rfl
  · obtain ⟨hi, s2, s3, h2, h3, rfl⟩ := hp'
    have el : (enumD (List.map PyData.int (List.drop 1 b.ds))).length = b.bs.length := by unfold enumD; simp [h.len]
    rw [el]
    walk_at "S"
    exact q
theorem period_ok (n : Nat) (b : Bond) (h : b.Ok) (day : Int) (Q : RV → List D → Prop) (q : Q (.fz (match perO b day with | some k => .int k | none => .none)) []) : run tb.G pr (n + 1) "period_of" [b.d, .int day] Q := by
  rw [e_period_of]; unfold b_period_of Bond.d
  have l1 := h.l1
  have len := h.len
  simp only [List.length_map, ↓TL.x_var, ↓TL.x_lit, ↓TL.x_glb, ↓TL.x_tup, ↓TL.x_lst, ↓TL.x_emp, ↓TL.x_rvs, ↓TL.x_met, ↓TL.x_dc1, ↓TL.x_dc2, ↓TL.x_bin, ↓TL.x_neg, ↓TL.x_nt, ↓TL.x_cmp, ↓TL.x_chn, ↓TL.x_and, ↓TL.x_or, ↓TL.x_ife, ↓TL.x_idx, ↓TL.x_slc, ↓TL.x_call, ↓TL.x_pcall, ↓TL.x_bl1, ↓TL.x_bl2, ↓TL.x_isi, ↓TL.x_pop, ↓TL.x_lc, ↓TL.x_lc2, ↓TL.x_nil, ↓TL.x_cons, ↓TL.x_no, ↓TL.x_so, ↓TL.x_tof, ↓TL.x_tand, ↓TL.x_tor, ↓TL.x_tnt, ↓TL.x_tite, ↓TL.x_ctno, ↓TL.x_ctso, ↓TL.x_iof, ↓TL.x_irng1, ↓TL.x_irng2, ↓TL.x_irng3, ↓TL.x_ienum, ↓TL.x_izip, ↓TL.x_irev, ↓TL.s_asg_, ↓TL.s_par_, ↓TL.s_sub_, ↓TL.s_aug_, ↓TL.s_swp_, ↓TL.s_augs_, ↓TL.s_subW, ↓TL.s_exp_, ↓TL.s_app_, ↓TL.s_ite_, ↓TL.s_for_, ↓TL.s_whl_, ↓TL.s_retN_, ↓TL.s_brk_, ↓TL.s_cnt_, ↓TL.s_pas_, ↓TL.ss_nil_, ↓TL.ss_cons_, ↓TL.o_dc1, ↓TL.s_ret_dc1, ↓TL.o_dc2, ↓TL.s_ret_dc2, ↓TL.o_emp, ↓TL.s_ret_emp, ↓TL.o_rvs, ↓TL.s_ret_rvs, ↓TL.o_met, ↓TL.s_ret_met, ↓TL.o_lit, ↓TL.s_ret_lit, ↓TL.o_glb, ↓TL.s_ret_glb, ↓TL.o_tup, ↓TL.s_ret_tup, ↓TL.o_lst, ↓TL.s_ret_lst, ↓TL.o_bin, ↓TL.s_ret_bin, ↓TL.o_neg, ↓TL.s_ret_neg, ↓TL.o_nt, ↓TL.s_ret_nt, ↓TL.o_cmp, ↓TL.s_ret_cmp, ↓TL.o_chn, ↓TL.s_ret_chn, ↓TL.o_and, ↓TL.s_ret_and, ↓TL.o_or, ↓TL.s_ret_or, ↓TL.o_ife, ↓TL.s_ret_ife, ↓TL.o_idx, ↓TL.s_ret_idx, ↓TL.o_slc, ↓TL.s_ret_slc, ↓TL.o_call, ↓TL.s_ret_call, ↓TL.o_pcall, ↓TL.s_ret_pcall, ↓TL.o_bl1, ↓TL.s_ret_bl1, ↓TL.o_bl2, ↓TL.s_ret_bl2, ↓TL.o_isi, ↓TL.s_ret_isi, ↓TL.o_pop, ↓TL.s_ret_pop, ↓TL.o_lc, ↓TL.s_ret_lc, ↓TL.o_lc2, ↓TL.s_ret_lc2, ↓TL.o_var_, ↓TL.s_retv_, ↓TL.l_val, ↓TL.l_slot, ↓TL.tg_fz, ↓TL.tg_own, ↓TL.tg_tup, ↓TL.tg_nil, ↓TL.tg_cons, ↓TL.wv_fz, ↓TL.wv_own, ↓TL.wv_s, ↓TL.lk_fz, ↓TL.lk_own, ↓TL.lk_bor, ↓TL.lk_s, ↓TL.cs_s, ↓TL.cs_un, ↓TL.cs_fz, ↓TL.cs_own, ↓TL.hd_own, ↓TL.hd_bor, ↓TL.hd_s, ↓TL.sh_own, ↓TL.sh_bor, ↓TL.sh_s, ↓TL.st_0, ↓TL.st_s, ↓TL.fr_nil, ↓TL.fr_cons, ↓TL.wp_nil, ↓TL.wp_cons, ↓TL.bk_nil, ↓TL.bk_cons, ↓TL.b_addI, ↓TL.b_subI, ↓TL.b_mulI, ↓TL.b_divI, ↓TL.b_modI, ↓TL.b_powI, ↓TL.b_addS, ↓TL.b_addT, ↓TL.b_addL, ↓TL.b_mulL, ↓TL.b_mulT, ↓TL.a_add, ↓TL.a_sub, ↓TL.a_mul, ↓TL.c_Eq_int, ↓TL.c_Eq_bool, ↓TL.c_Eq_str, ↓TL.c_Eq_tuple, ↓TL.c_Eq_list, ↓TL.c_NotEq_int, ↓TL.c_NotEq_bool, ↓TL.c_NotEq_str, ↓TL.c_NotEq_tuple, ↓TL.c_NotEq_list, ↓TL.c_Lt, ↓TL.c_LtE, ↓TL.c_Gt, ↓TL.c_GtE, ↓TL.c_LtE_b, ↓TL.c_Is_b, ↓TL.c_Is_n, ↓TL.c_IsNot_b, ↓TL.c_IsNot_n, ↓TL.c_In_tuple, ↓TL.c_In_list, ↓TL.c_NotIn_tuple, ↓TL.c_NotIn_list, ↓TL.t_non, ↓TL.t_bl, ↓TL.t_int, ↓TL.t_str, ↓TL.t_lst, ↓TL.t_tup, ↓TL.i_lst, ↓TL.i_tup, ↓TL.sl_lst, ↓TL.sl_tup, ↓TL.as_i, ↓TL.as_b, ↓TL.it_l, ↓TL.it_t, ↓TL.ls_l, ↓TL.zp_n, ↓TL.zp_f, ↓TL.zp_s, ↓TL.rv_l, ↓TL.rv_t, ↓TL.m_sw, ↓TL.m_ew, ↓TL.m_ix, ↓TL.m_ixd, ↓TL.tm_ixd, ↓TL.tm_sw, ↓TL.tm_ew, ↓TL.tm_ix, ↓TL.c_Lt_t, ↓TL.f_lenL, ↓TL.f_lenT, ↓TL.f_lenS, ↓TL.f_abs, ↓TL.f_min, ↓TL.f_max, ↓TL.f_sum, ↓TL.f_all, ↓TL.f_any, ↓TL.f_sort, ↓TL.f_ssetL, ↓TL.f_ssetT, ↓TL.f_trng, ↓TL.f_denL, ↓TL.f_denT, ↓TL.f_tupL, ↓TL.f_tupT, ↓TL.f_lstL, ↓TL.f_lstT, ↓TL.f_intI, ↓TL.f_intB, ↓TL.f_str, ↓TL.g_min, ↓TL.g_max, ↓TL.rd_fz, ↓TL.rd_own, ↓TL.rs_fz, ↓TL.rs_own, ↓TL.ou_b, ↓TL.at_l0, ↓TL.at_l1, ↓TL.at_l2, ↓TL.at_l3, ↓TL.at_l4, ↓TL.at_l5, ↓TL.at_l6, ↓TL.at_l7, ↓TL.ix_l0, ↓TL.ix_l1, ↓TL.ix_l2, ↓TL.ix_l3, ↓TL.ix_l4, ↓TL.ix_l5, ↓TL.ix_l6, ↓TL.ix_l7, ↓TL.ix_l8, ↓TL.ix_l9, ↓TL.ix_l10, ↓TL.ix_l11, ↓TL.ix_l12, TL.isStr, TL.flatD, TL.inD, TL.isiD, TL.tyD, TL.isNone, TL.eqv_int, TL.eqv_bool, TL.eqv_str, TL.sh_int, TL.sh_bool, TL.sz_le, TL.sz_lt, TL.Sl.held, List.map_cons, List.map_nil, List.cons_append, List.nil_append, List.append_nil, List.length_cons, List.length_nil, List.length_map, List.length_set, List.set_cons_zero, List.set_cons_succ, Nat.reduceLT, List.all_cons, List.all_nil, List.any_cons, List.any_nil, List.zip_cons_cons, List.zip_nil_left, List.zip_nil_right, List.foldl_cons, List.foldl_nil, List.getD_cons_zero, List.getD_cons_succ, List.mem_cons, List.not_mem_nil, forall_eq_or_imp, forall_eq, or_false, false_or, true_or, or_true, true_and, and_true, false_and, and_false, false_implies, implies_true, forall_const, ↓reduceIte, if_true, if_false, Bool.false_eq_true, Bool.true_and, Bool.and_true, Bool.false_and, Bool.and_false, Bool.or_false, Bool.false_or, Bool.or_true, Bool.true_or, Bool.not_true, Bool.not_false, Bool.and_eq_true, Bool.or_eq_true, Bool.not_eq_true', decide_eq_true_eq, decide_eq_false_iff_not, ne_eq, not_false_eq_true, not_true_eq_false, reduceCtorEq, decide_true, decide_false, Nat.reduceAdd, Nat.reduceLeDiff, Nat.reduceEqDiff, TL.all_isInt, TL.map_intOf, TL.all_isBool, TL.map_boolOf, TL.take_ints, TL.drop_ints, List.take_succ_cons, List.take_zero, List.drop_succ_cons, List.drop_zero, List.take_nil, List.drop_nil, TL.fmod_n, TL.fdiv_n, TL.cut_to, TL.cut_from, TL.cut_mid, Int.reduceEq, Int.reduceNe, Int.reduceNeg, Int.reduceAdd, Int.reduceMul, Int.reduceSub, Int.reduceLT, Int.reduceLE, Int.reduceGT, Int.reduceGE, Int.reducePow, Int.reduceToNat, Int.add_zero, Int.zero_add, String.reduceEq, String.reduceBEq]
  refine ⟨⟨by omega, by omega⟩, ?_⟩
  refine for_inv (fun i ρ => perF (perB b day) i = none ∧ ∃ s3, nb s3 = true ∧ ρ = [.fz b.d, .fz (.int day), .fz (.tuple (b.ds.map .int)), s3]) ⟨rfl, _, rfl, rfl⟩ (fun i d ρ n1 n4 hd hp' k1 k4 => ?_) (fun ρ hp' => ?_)
  · obtain ⟨hi, s3, h3, rfl⟩ := hp'
    obtain ⟨rfl, hj⟩ := rng_get hd
    have hb : i < b.bs.length := by omega
    simp only [cs_nb h3, at_i (show i < b.ds.length by omega), at_i1 (show i + 1 < b.ds.length by omega), ↓TL.x_var, ↓TL.x_lit, ↓TL.x_glb, ↓TL.x_tup, ↓TL.x_lst, ↓TL.x_emp, ↓TL.x_rvs, ↓TL.x_met, ↓TL.x_dc1, ↓TL.x_dc2, ↓TL.x_bin, ↓TL.x_neg, ↓TL.x_nt, ↓TL.x_cmp, ↓TL.x_chn, ↓TL.x_and, ↓TL.x_or, ↓TL.x_ife, ↓TL.x_idx, ↓TL.x_slc, ↓TL.x_call, ↓TL.x_pcall, ↓TL.x_bl1, ↓TL.x_bl2, ↓TL.x_isi, ↓TL.x_pop, ↓TL.x_lc, ↓TL.x_lc2, ↓TL.x_nil, ↓TL.x_cons, ↓TL.x_no, ↓TL.x_so, ↓TL.x_tof, ↓TL.x_tand, ↓TL.x_tor, ↓TL.x_tnt, ↓TL.x_tite, ↓TL.x_ctno, ↓TL.x_ctso, ↓TL.x_iof, ↓TL.x_irng1, ↓TL.x_irng2, ↓TL.x_irng3, ↓TL.x_ienum, ↓TL.x_izip, ↓TL.x_irev, ↓TL.s_asg_, ↓TL.s_par_, ↓TL.s_sub_, ↓TL.s_aug_, ↓TL.s_swp_, ↓TL.s_augs_, ↓TL.s_subW, ↓TL.s_exp_, ↓TL.s_app_, ↓TL.s_ite_, ↓TL.s_for_, ↓TL.s_whl_, ↓TL.s_retN_, ↓TL.s_brk_, ↓TL.s_cnt_, ↓TL.s_pas_, ↓TL.ss_nil_, ↓TL.ss_cons_, ↓TL.o_dc1, ↓TL.s_ret_dc1, ↓TL.o_dc2, ↓TL.s_ret_dc2, ↓TL.o_emp, ↓TL.s_ret_emp, ↓TL.o_rvs, ↓TL.s_ret_rvs, ↓TL.o_met, ↓TL.s_ret_met, ↓TL.o_lit, ↓TL.s_ret_lit, ↓TL.o_glb, ↓TL.s_ret_glb, ↓TL.o_tup, ↓TL.s_ret_tup, ↓TL.o_lst, ↓TL.s_ret_lst, ↓TL.o_bin, ↓TL.s_ret_bin, ↓TL.o_neg, ↓TL.s_ret_neg, ↓TL.o_nt, ↓TL.s_ret_nt, ↓TL.o_cmp, ↓TL.s_ret_cmp, ↓TL.o_chn, ↓TL.s_ret_chn, ↓TL.o_and, ↓TL.s_ret_and, ↓TL.o_or, ↓TL.s_ret_or, ↓TL.o_ife, ↓TL.s_ret_ife, ↓TL.o_idx, ↓TL.s_ret_idx, ↓TL.o_slc, ↓TL.s_ret_slc, ↓TL.o_call, ↓TL.s_ret_call, ↓TL.o_pcall, ↓TL.s_ret_pcall, ↓TL.o_bl1, ↓TL.s_ret_bl1, ↓TL.o_bl2, ↓TL.s_ret_bl2, ↓TL.o_isi, ↓TL.s_ret_isi, ↓TL.o_pop, ↓TL.s_ret_pop, ↓TL.o_lc, ↓TL.s_ret_lc, ↓TL.o_lc2, ↓TL.s_ret_lc2, ↓TL.o_var_, ↓TL.s_retv_, ↓TL.l_val, ↓TL.l_slot, ↓TL.tg_fz, ↓TL.tg_own, ↓TL.tg_tup, ↓TL.tg_nil, ↓TL.tg_cons, ↓TL.wv_fz, ↓TL.wv_own, ↓TL.wv_s, ↓TL.lk_fz, ↓TL.lk_own, ↓TL.lk_bor, ↓TL.lk_s, ↓TL.cs_s, ↓TL.cs_un, ↓TL.cs_fz, ↓TL.cs_own, ↓TL.hd_own, ↓TL.hd_bor, ↓TL.hd_s, ↓TL.sh_own, ↓TL.sh_bor, ↓TL.sh_s, ↓TL.st_0, ↓TL.st_s, ↓TL.fr_nil, ↓TL.fr_cons, ↓TL.wp_nil, ↓TL.wp_cons, ↓TL.bk_nil, ↓TL.bk_cons, ↓TL.b_addI, ↓TL.b_subI, ↓TL.b_mulI, ↓TL.b_divI, ↓TL.b_modI, ↓TL.b_powI, ↓TL.b_addS, ↓TL.b_addT, ↓TL.b_addL, ↓TL.b_mulL, ↓TL.b_mulT, ↓TL.a_add, ↓TL.a_sub, ↓TL.a_mul, ↓TL.c_Eq_int, ↓TL.c_Eq_bool, ↓TL.c_Eq_str, ↓TL.c_Eq_tuple, ↓TL.c_Eq_list, ↓TL.c_NotEq_int, ↓TL.c_NotEq_bool, ↓TL.c_NotEq_str, ↓TL.c_NotEq_tuple, ↓TL.c_NotEq_list, ↓TL.c_Lt, ↓TL.c_LtE, ↓TL.c_Gt, ↓TL.c_GtE, ↓TL.c_LtE_b, ↓TL.c_Is_b, ↓TL.c_Is_n, ↓TL.c_IsNot_b, ↓TL.c_IsNot_n, ↓TL.c_In_tuple, ↓TL.c_In_list, ↓TL.c_NotIn_tuple, ↓TL.c_NotIn_list, ↓TL.t_non, ↓TL.t_bl, ↓TL.t_int, ↓TL.t_str, ↓TL.t_lst, ↓TL.t_tup, ↓TL.i_lst, ↓TL.i_tup, ↓TL.sl_lst, ↓TL.sl_tup, ↓TL.as_i, ↓TL.as_b, ↓TL.it_l, ↓TL.it_t, ↓TL.ls_l, ↓TL.zp_n, ↓TL.zp_f, ↓TL.zp_s, ↓TL.rv_l, ↓TL.rv_t, ↓TL.m_sw, ↓TL.m_ew, ↓TL.m_ix, ↓TL.m_ixd, ↓TL.tm_ixd, ↓TL.tm_sw, ↓TL.tm_ew, ↓TL.tm_ix, ↓TL.c_Lt_t, ↓TL.f_lenL, ↓TL.f_lenT, ↓TL.f_lenS, ↓TL.f_abs, ↓TL.f_min, ↓TL.f_max, ↓TL.f_sum, ↓TL.f_all, ↓TL.f_any, ↓TL.f_sort, ↓TL.f_ssetL, ↓TL.f_ssetT, ↓TL.f_trng, ↓TL.f_denL, ↓TL.f_denT, ↓TL.f_tupL, ↓TL.f_tupT, ↓TL.f_lstL, ↓TL.f_lstT, ↓TL.f_intI, ↓TL.f_intB, ↓TL.f_str, ↓TL.g_min, ↓TL.g_max, ↓TL.rd_fz, ↓TL.rd_own, ↓TL.rs_fz, ↓TL.rs_own, ↓TL.ou_b, ↓TL.at_l0, ↓TL.at_l1, ↓TL.at_l2, ↓TL.at_l3, ↓TL.at_l4, ↓TL.at_l5, ↓TL.at_l6, ↓TL.at_l7, ↓TL.ix_l0, ↓TL.ix_l1, ↓TL.ix_l2, ↓TL.ix_l3, ↓TL.ix_l4, ↓TL.ix_l5, ↓TL.ix_l6, ↓TL.ix_l7, ↓TL.ix_l8, ↓TL.ix_l9, ↓TL.ix_l10, ↓TL.ix_l11, ↓TL.ix_l12, TL.isStr, TL.flatD, TL.inD, TL.isiD, TL.tyD, TL.isNone, TL.eqv_int, TL.eqv_bool, TL.eqv_str, TL.sh_int, TL.sh_bool, TL.sz_le, TL.sz_lt, TL.Sl.held, List.map_cons, List.map_nil, List.cons_append, List.nil_append, List.append_nil, List.length_cons, List.length_nil, List.length_map, List.length_set, List.set_cons_zero, List.set_cons_succ, Nat.reduceLT, List.all_cons, List.all_nil, List.any_cons, List.any_nil, List.zip_cons_cons, List.zip_nil_left, List.zip_nil_right, List.foldl_cons, List.foldl_nil, List.getD_cons_zero, List.getD_cons_succ, List.mem_cons, List.not_mem_nil, forall_eq_or_imp, forall_eq, or_false, false_or, true_or, or_true, true_and, and_true, false_and, and_false, false_implies, implies_true, forall_const, ↓reduceIte, if_true, if_false, Bool.false_eq_true, Bool.true_and, Bool.and_true, Bool.false_and, Bool.and_false, Bool.or_false, Bool.false_or, Bool.or_true, Bool.true_or, Bool.not_true, Bool.not_false, Bool.and_eq_true, Bool.or_eq_true, Bool.not_eq_true', decide_eq_true_eq, decide_eq_false_iff_not, ne_eq, not_false_eq_true, not_true_eq_false, reduceCtorEq, decide_true, decide_false, Nat.reduceAdd, Nat.reduceLeDiff, Nat.reduceEqDiff, TL.all_isInt, TL.map_intOf, TL.all_isBool, TL.map_boolOf, TL.take_ints, TL.drop_ints, List.take_succ_cons, List.take_zero, List.drop_succ_cons, List.drop_zero, List.take_nil, List.drop_nil, TL.fmod_n, TL.fdiv_n, TL.cut_to, TL.cut_from, TL.cut_mid, Int.reduceEq, Int.reduceNe, Int.reduceNeg, Int.reduceAdd, Int.reduceMul, Int.reduceSub, Int.reduceLT, Int.reduceLE, Int.reduceGT, Int.reduceGE, Int.reducePow, Int.reduceToNat, Int.add_zero, Int.zero_add, String.reduceEq, String.reduceBEq]
    have no : perB b day i = false → n1 [.fz b.d, .fz (.int day), .fz (.tuple (b.ds.map .int)), .fz (.int i)] := fun e => k1 _ ⟨perF_go hi e, _, rfl, rfl⟩
    by_cases c1 : b.ds.getD i 0 ≤ day
    · rw [if_pos c1]
      by_cases c2 : day < b.ds.getD (i + 1) 0
      · rw [if_pos c2]
        have e : perO b day = some i := perF_stop hi (decide_eq_true ⟨c1, c2⟩) _ hb
        rw [e] at q
        exact q
      · rw [if_neg c2]
        exact no (decide_eq_false fun z => c2 z.2)
    · rw [if_neg c1]
      exact no (decide_eq_false fun z => c1 z.1)
  · obtain ⟨hi, s3, h3, rfl⟩ := hp'
    rw [rng_len, show ((b.ds.length : Int) - 1 - 0).toNat = b.bs.length by omega] at hi
    have e : perO b day = none := hi
    rw [e] at q
    walk_at "S"
    exact q
theorem per_in {b : Bond} (h : b.Ok) {day : Int} {k : Nat} (e : perO b day = some k) : k < b.bs.length ∧ b.ds.getD k 0 ≤ day ∧ day < b.ds.getD (k + 1) 0 ∧ InD day := by
  obtain ⟨hk, hp⟩ := perF_some e
  have hp := of_decide_eq_true hp
  have i0 := h.inD k (by rw [h.len]; omega)
  have i1 := h.inD (k + 1) (by rw [h.len]; omega)
  exact ⟨hk, hp.1, hp.2, by have := i0.1; omega, by have := i1.2; omega⟩
theorem accR_sz {b : Bond} (h : b.Ok) (day : Int) : RS 700 (accR b day) := by
  unfold accR
  split
  · rename_i k e
    obtain ⟨hk, _, _, hd⟩ := per_in h e
    exact intR_sz h hk hd
  · exact .zero (by decide)
end Pr
end
section
namespace Pr
open PySem TL
theorem law_sum_ok (n : Nat) {k : Nat} (p : List Rat) (hp : PS k p) (k0 : 1 ≤ k) (hk : 21 * (k + 1) < 3900) (hl : p.length ≤ 20) (Q : RV → List D → Prop) (q : Q (.fz (frD (sumL p))) []) : run tb.G pr (n + 4) "_law_sum" [.tuple (pL p)] Q := by
  rw [e_law_sum]; unfold b_law_sum
  walk_at "S"
  rw [frD_0]
  refine for_inv (fun i ρ => i ≤ p.length ∧ ∃ s2, nb s2 = true ∧ ρ = [.fz (.tuple (pL p)), .fz (frD (sumL (p.take i))), s2]) ⟨by omega, _, rfl, rfl⟩ (fun i d ρ n1 n4 hd hp' k1 k4 => ?_) (fun ρ hp' => ?_)
  · obtain ⟨hi, s2, h2, rfl⟩ := hp'
    obtain ⟨hi, rfl⟩ := pL_get2 hd
    have s := sumL_sz hp k0 i (by omega)
    have b : i * (k + 1) ≤ 20 * (k + 1) := Nat.mul_le_mul_right _ (by omega)
    simp only [cs_nb h2, ↓TL.x_var, ↓TL.x_lit, ↓TL.x_glb, ↓TL.x_tup, ↓TL.x_lst, ↓TL.x_emp, ↓TL.x_rvs, ↓TL.x_met, ↓TL.x_dc1, ↓TL.x_dc2, ↓TL.x_bin, ↓TL.x_neg, ↓TL.x_nt, ↓TL.x_cmp, ↓TL.x_chn, ↓TL.x_and, ↓TL.x_or, ↓TL.x_ife, ↓TL.x_idx, ↓TL.x_slc, ↓TL.x_call, ↓TL.x_pcall, ↓TL.x_bl1, ↓TL.x_bl2, ↓TL.x_isi, ↓TL.x_pop, ↓TL.x_lc, ↓TL.x_lc2, ↓TL.x_nil, ↓TL.x_cons, ↓TL.x_no, ↓TL.x_so, ↓TL.x_tof, ↓TL.x_tand, ↓TL.x_tor, ↓TL.x_tnt, ↓TL.x_tite, ↓TL.x_ctno, ↓TL.x_ctso, ↓TL.x_iof, ↓TL.x_irng1, ↓TL.x_irng2, ↓TL.x_irng3, ↓TL.x_ienum, ↓TL.x_izip, ↓TL.x_irev, ↓TL.s_asg_, ↓TL.s_par_, ↓TL.s_sub_, ↓TL.s_aug_, ↓TL.s_swp_, ↓TL.s_augs_, ↓TL.s_subW, ↓TL.s_exp_, ↓TL.s_app_, ↓TL.s_ite_, ↓TL.s_for_, ↓TL.s_whl_, ↓TL.s_retN_, ↓TL.s_brk_, ↓TL.s_cnt_, ↓TL.s_pas_, ↓TL.ss_nil_, ↓TL.ss_cons_, ↓TL.o_dc1, ↓TL.s_ret_dc1, ↓TL.o_dc2, ↓TL.s_ret_dc2, ↓TL.o_emp, ↓TL.s_ret_emp, ↓TL.o_rvs, ↓TL.s_ret_rvs, ↓TL.o_met, ↓TL.s_ret_met, ↓TL.o_lit, ↓TL.s_ret_lit, ↓TL.o_glb, ↓TL.s_ret_glb, ↓TL.o_tup, ↓TL.s_ret_tup, ↓TL.o_lst, ↓TL.s_ret_lst, ↓TL.o_bin, ↓TL.s_ret_bin, ↓TL.o_neg, ↓TL.s_ret_neg, ↓TL.o_nt, ↓TL.s_ret_nt, ↓TL.o_cmp, ↓TL.s_ret_cmp, ↓TL.o_chn, ↓TL.s_ret_chn, ↓TL.o_and, ↓TL.s_ret_and, ↓TL.o_or, ↓TL.s_ret_or, ↓TL.o_ife, ↓TL.s_ret_ife, ↓TL.o_idx, ↓TL.s_ret_idx, ↓TL.o_slc, ↓TL.s_ret_slc, ↓TL.o_call, ↓TL.s_ret_call, ↓TL.o_pcall, ↓TL.s_ret_pcall, ↓TL.o_bl1, ↓TL.s_ret_bl1, ↓TL.o_bl2, ↓TL.s_ret_bl2, ↓TL.o_isi, ↓TL.s_ret_isi, ↓TL.o_pop, ↓TL.s_ret_pop, ↓TL.o_lc, ↓TL.s_ret_lc, ↓TL.o_lc2, ↓TL.s_ret_lc2, ↓TL.o_var_, ↓TL.s_retv_, ↓TL.l_val, ↓TL.l_slot, ↓TL.tg_fz, ↓TL.tg_own, ↓TL.tg_tup, ↓TL.tg_nil, ↓TL.tg_cons, ↓TL.wv_fz, ↓TL.wv_own, ↓TL.wv_s, ↓TL.lk_fz, ↓TL.lk_own, ↓TL.lk_bor, ↓TL.lk_s, ↓TL.cs_s, ↓TL.cs_un, ↓TL.cs_fz, ↓TL.cs_own, ↓TL.hd_own, ↓TL.hd_bor, ↓TL.hd_s, ↓TL.sh_own, ↓TL.sh_bor, ↓TL.sh_s, ↓TL.st_0, ↓TL.st_s, ↓TL.fr_nil, ↓TL.fr_cons, ↓TL.wp_nil, ↓TL.wp_cons, ↓TL.bk_nil, ↓TL.bk_cons, ↓TL.b_addI, ↓TL.b_subI, ↓TL.b_mulI, ↓TL.b_divI, ↓TL.b_modI, ↓TL.b_powI, ↓TL.b_addS, ↓TL.b_addT, ↓TL.b_addL, ↓TL.b_mulL, ↓TL.b_mulT, ↓TL.a_add, ↓TL.a_sub, ↓TL.a_mul, ↓TL.c_Eq_int, ↓TL.c_Eq_bool, ↓TL.c_Eq_str, ↓TL.c_Eq_tuple, ↓TL.c_Eq_list, ↓TL.c_NotEq_int, ↓TL.c_NotEq_bool, ↓TL.c_NotEq_str, ↓TL.c_NotEq_tuple, ↓TL.c_NotEq_list, ↓TL.c_Lt, ↓TL.c_LtE, ↓TL.c_Gt, ↓TL.c_GtE, ↓TL.c_LtE_b, ↓TL.c_Is_b, ↓TL.c_Is_n, ↓TL.c_IsNot_b, ↓TL.c_IsNot_n, ↓TL.c_In_tuple, ↓TL.c_In_list, ↓TL.c_NotIn_tuple, ↓TL.c_NotIn_list, ↓TL.t_non, ↓TL.t_bl, ↓TL.t_int, ↓TL.t_str, ↓TL.t_lst, ↓TL.t_tup, ↓TL.i_lst, ↓TL.i_tup, ↓TL.sl_lst, ↓TL.sl_tup, ↓TL.as_i, ↓TL.as_b, ↓TL.it_l, ↓TL.it_t, ↓TL.ls_l, ↓TL.zp_n, ↓TL.zp_f, ↓TL.zp_s, ↓TL.rv_l, ↓TL.rv_t, ↓TL.m_sw, ↓TL.m_ew, ↓TL.m_ix, ↓TL.m_ixd, ↓TL.tm_ixd, ↓TL.tm_sw, ↓TL.tm_ew, ↓TL.tm_ix, ↓TL.c_Lt_t, ↓TL.f_lenL, ↓TL.f_lenT, ↓TL.f_lenS, ↓TL.f_abs, ↓TL.f_min, ↓TL.f_max, ↓TL.f_sum, ↓TL.f_all, ↓TL.f_any, ↓TL.f_sort, ↓TL.f_ssetL, ↓TL.f_ssetT, ↓TL.f_trng, ↓TL.f_denL, ↓TL.f_denT, ↓TL.f_tupL, ↓TL.f_tupT, ↓TL.f_lstL, ↓TL.f_lstT, ↓TL.f_intI, ↓TL.f_intB, ↓TL.f_str, ↓TL.g_min, ↓TL.g_max, ↓TL.rd_fz, ↓TL.rd_own, ↓TL.rs_fz, ↓TL.rs_own, ↓TL.ou_b, ↓TL.at_l0, ↓TL.at_l1, ↓TL.at_l2, ↓TL.at_l3, ↓TL.at_l4, ↓TL.at_l5, ↓TL.at_l6, ↓TL.at_l7, ↓TL.ix_l0, ↓TL.ix_l1, ↓TL.ix_l2, ↓TL.ix_l3, ↓TL.ix_l4, ↓TL.ix_l5, ↓TL.ix_l6, ↓TL.ix_l7, ↓TL.ix_l8, ↓TL.ix_l9, ↓TL.ix_l10, ↓TL.ix_l11, ↓TL.ix_l12, TL.isStr, TL.flatD, TL.inD, TL.isiD, TL.tyD, TL.isNone, TL.eqv_int, TL.eqv_bool, TL.eqv_str, TL.sh_int, TL.sh_bool, TL.sz_le, TL.sz_lt, TL.Sl.held, List.map_cons, List.map_nil, List.cons_append, List.nil_append, List.append_nil, List.length_cons, List.length_nil, List.length_map, List.length_set, List.set_cons_zero, List.set_cons_succ, Nat.reduceLT, List.all_cons, List.all_nil, List.any_cons, List.any_nil, List.zip_cons_cons, List.zip_nil_left, List.zip_nil_right, List.foldl_cons, List.foldl_nil, List.getD_cons_zero, List.getD_cons_succ, List.mem_cons, List.not_mem_nil, forall_eq_or_imp, forall_eq, or_false, false_or, true_or, or_true, true_and, and_true, false_and, and_false, false_implies, implies_true, forall_const, ↓reduceIte, if_true, if_false, Bool.false_eq_true, Bool.true_and, Bool.and_true, Bool.false_and, Bool.and_false, Bool.or_false, Bool.false_or, Bool.or_true, Bool.true_or, Bool.not_true, Bool.not_false, Bool.and_eq_true, Bool.or_eq_true, Bool.not_eq_true', decide_eq_true_eq, decide_eq_false_iff_not, ne_eq, not_false_eq_true, not_true_eq_false, reduceCtorEq, decide_true, decide_false, Nat.reduceAdd, Nat.reduceLeDiff, Nat.reduceEqDiff, TL.all_isInt, TL.map_intOf, TL.all_isBool, TL.map_boolOf, TL.take_ints, TL.drop_ints, List.take_succ_cons, List.take_zero, List.drop_succ_cons, List.drop_zero, List.take_nil, List.drop_nil, TL.fmod_n, TL.fdiv_n, TL.cut_to, TL.cut_from, TL.cut_mid, Int.reduceEq, Int.reduceNe, Int.reduceNeg, Int.reduceAdd, Int.reduceMul, Int.reduceSub, Int.reduceLT, Int.reduceLE, Int.reduceGT, Int.reduceGE, Int.reducePow, Int.reduceToNat, Int.add_zero, Int.zero_add, String.reduceEq, String.reduceBEq]
    refine law_plus_ok (k := 21 * (k + 1)) n _ _ (s.mono (by omega)) ((hp.getD k0 i).mono (by omega)) (by omega) _ ?_
    rw [← sumL_take hi]
    walk_at "S"
    exact k1 _ ⟨by omega, _, rfl, rfl⟩
  · obtain ⟨hi, s2, h2, rfl⟩ := hp'
    rw [pL_len, List.take_length]
    walk_at "S"
    exact q
theorem law_owed_ok (n : Nat) (b : Bond) (h : b.Ok) (k : Nat) (Q : RV → List D → Prop) (q : Q (.fz (frD (sumL (b.bs.drop k)))) []) : run tb.G pr (n + 5) "_law_owed" [b.d, .int k] Q := by
  rw [e_law_owed]; unfold b_law_owed Bond.d
  walk_at "S"
  rw [cut_from (by omega), Int.toNat_natCast, pL_drop]
  exact law_sum_ok n (k := 32) _ (fun a m => h.bs a (List.mem_of_mem_drop m)) (by decide) (by decide) (by rw [List.length_drop]; have := h.l1; omega) _ q
theorem law_interest_ok (n : Nat) (b : Bond) (h : b.Ok) (k : Nat) (hk : k < b.bs.length) (day : Int) (hd : InD day) (Q : RV → List D → Prop) (q : Q (.fz (frD (intR b k day))) []) : run tb.G pr (n + 6) "_law_interest" [b.d, .int k, .int (b.ds.getD k 0), .int day] Q := by
  rw [e_law_interest]; unfold b_law_interest
  have e : b.d = .tuple [.tuple (b.ds.map .int), frD b.rate, .int b.m, .str b.word, .tuple (pL b.bs)] := rfl
  have i0 := h.inD k (by rw [h.len]; omega)
  have ps := partR_sz h hk hd
  have s := sumL_sz' (m := 20) (l := b.bs.drop k) (fun a m => h.bs a (List.mem_of_mem_drop m)) (by decide) (by rw [List.length_drop]; have := h.l1; omega)
  rw [e]
  simp only [at_i (show k < b.ds.length by rw [h.len]; omega), at_i1 (show k + 1 < b.ds.length by rw [h.len]; omega), ↓TL.x_var, ↓TL.x_lit, ↓TL.x_glb, ↓TL.x_tup, ↓TL.x_lst, ↓TL.x_emp, ↓TL.x_rvs, ↓TL.x_met, ↓TL.x_dc1, ↓TL.x_dc2, ↓TL.x_bin, ↓TL.x_neg, ↓TL.x_nt, ↓TL.x_cmp, ↓TL.x_chn, ↓TL.x_and, ↓TL.x_or, ↓TL.x_ife, ↓TL.x_idx, ↓TL.x_slc, ↓TL.x_call, ↓TL.x_pcall, ↓TL.x_bl1, ↓TL.x_bl2, ↓TL.x_isi, ↓TL.x_pop, ↓TL.x_lc, ↓TL.x_lc2, ↓TL.x_nil, ↓TL.x_cons, ↓TL.x_no, ↓TL.x_so, ↓TL.x_tof, ↓TL.x_tand, ↓TL.x_tor, ↓TL.x_tnt, ↓TL.x_tite, ↓TL.x_ctno, ↓TL.x_ctso, ↓TL.x_iof, ↓TL.x_irng1, ↓TL.x_irng2, ↓TL.x_irng3, ↓TL.x_ienum, ↓TL.x_izip, ↓TL.x_irev, ↓TL.s_asg_, ↓TL.s_par_, ↓TL.s_sub_, ↓TL.s_aug_, ↓TL.s_swp_, ↓TL.s_augs_, ↓TL.s_subW, ↓TL.s_exp_, ↓TL.s_app_, ↓TL.s_ite_, ↓TL.s_for_, ↓TL.s_whl_, ↓TL.s_retN_, ↓TL.s_brk_, ↓TL.s_cnt_, ↓TL.s_pas_, ↓TL.ss_nil_, ↓TL.ss_cons_, ↓TL.o_dc1, ↓TL.s_ret_dc1, ↓TL.o_dc2, ↓TL.s_ret_dc2, ↓TL.o_emp, ↓TL.s_ret_emp, ↓TL.o_rvs, ↓TL.s_ret_rvs, ↓TL.o_met, ↓TL.s_ret_met, ↓TL.o_lit, ↓TL.s_ret_lit, ↓TL.o_glb, ↓TL.s_ret_glb, ↓TL.o_tup, ↓TL.s_ret_tup, ↓TL.o_lst, ↓TL.s_ret_lst, ↓TL.o_bin, ↓TL.s_ret_bin, ↓TL.o_neg, ↓TL.s_ret_neg, ↓TL.o_nt, ↓TL.s_ret_nt, ↓TL.o_cmp, ↓TL.s_ret_cmp, ↓TL.o_chn, ↓TL.s_ret_chn, ↓TL.o_and, ↓TL.s_ret_and, ↓TL.o_or, ↓TL.s_ret_or, ↓TL.o_ife, ↓TL.s_ret_ife, ↓TL.o_idx, ↓TL.s_ret_idx, ↓TL.o_slc, ↓TL.s_ret_slc, ↓TL.o_call, ↓TL.s_ret_call, ↓TL.o_pcall, ↓TL.s_ret_pcall, ↓TL.o_bl1, ↓TL.s_ret_bl1, ↓TL.o_bl2, ↓TL.s_ret_bl2, ↓TL.o_isi, ↓TL.s_ret_isi, ↓TL.o_pop, ↓TL.s_ret_pop, ↓TL.o_lc, ↓TL.s_ret_lc, ↓TL.o_lc2, ↓TL.s_ret_lc2, ↓TL.o_var_, ↓TL.s_retv_, ↓TL.l_val, ↓TL.l_slot, ↓TL.tg_fz, ↓TL.tg_own, ↓TL.tg_tup, ↓TL.tg_nil, ↓TL.tg_cons, ↓TL.wv_fz, ↓TL.wv_own, ↓TL.wv_s, ↓TL.lk_fz, ↓TL.lk_own, ↓TL.lk_bor, ↓TL.lk_s, ↓TL.cs_s, ↓TL.cs_un, ↓TL.cs_fz, ↓TL.cs_own, ↓TL.hd_own, ↓TL.hd_bor, ↓TL.hd_s, ↓TL.sh_own, ↓TL.sh_bor, ↓TL.sh_s, ↓TL.st_0, ↓TL.st_s, ↓TL.fr_nil, ↓TL.fr_cons, ↓TL.wp_nil, ↓TL.wp_cons, ↓TL.bk_nil, ↓TL.bk_cons, ↓TL.b_addI, ↓TL.b_subI, ↓TL.b_mulI, ↓TL.b_divI, ↓TL.b_modI, ↓TL.b_powI, ↓TL.b_addS, ↓TL.b_addT, ↓TL.b_addL, ↓TL.b_mulL, ↓TL.b_mulT, ↓TL.a_add, ↓TL.a_sub, ↓TL.a_mul, ↓TL.c_Eq_int, ↓TL.c_Eq_bool, ↓TL.c_Eq_str, ↓TL.c_Eq_tuple, ↓TL.c_Eq_list, ↓TL.c_NotEq_int, ↓TL.c_NotEq_bool, ↓TL.c_NotEq_str, ↓TL.c_NotEq_tuple, ↓TL.c_NotEq_list, ↓TL.c_Lt, ↓TL.c_LtE, ↓TL.c_Gt, ↓TL.c_GtE, ↓TL.c_LtE_b, ↓TL.c_Is_b, ↓TL.c_Is_n, ↓TL.c_IsNot_b, ↓TL.c_IsNot_n, ↓TL.c_In_tuple, ↓TL.c_In_list, ↓TL.c_NotIn_tuple, ↓TL.c_NotIn_list, ↓TL.t_non, ↓TL.t_bl, ↓TL.t_int, ↓TL.t_str, ↓TL.t_lst, ↓TL.t_tup, ↓TL.i_lst, ↓TL.i_tup, ↓TL.sl_lst, ↓TL.sl_tup, ↓TL.as_i, ↓TL.as_b, ↓TL.it_l, ↓TL.it_t, ↓TL.ls_l, ↓TL.zp_n, ↓TL.zp_f, ↓TL.zp_s, ↓TL.rv_l, ↓TL.rv_t, ↓TL.m_sw, ↓TL.m_ew, ↓TL.m_ix, ↓TL.m_ixd, ↓TL.tm_ixd, ↓TL.tm_sw, ↓TL.tm_ew, ↓TL.tm_ix, ↓TL.c_Lt_t, ↓TL.f_lenL, ↓TL.f_lenT, ↓TL.f_lenS, ↓TL.f_abs, ↓TL.f_min, ↓TL.f_max, ↓TL.f_sum, ↓TL.f_all, ↓TL.f_any, ↓TL.f_sort, ↓TL.f_ssetL, ↓TL.f_ssetT, ↓TL.f_trng, ↓TL.f_denL, ↓TL.f_denT, ↓TL.f_tupL, ↓TL.f_tupT, ↓TL.f_lstL, ↓TL.f_lstT, ↓TL.f_intI, ↓TL.f_intB, ↓TL.f_str, ↓TL.g_min, ↓TL.g_max, ↓TL.rd_fz, ↓TL.rd_own, ↓TL.rs_fz, ↓TL.rs_own, ↓TL.ou_b, ↓TL.at_l0, ↓TL.at_l1, ↓TL.at_l2, ↓TL.at_l3, ↓TL.at_l4, ↓TL.at_l5, ↓TL.at_l6, ↓TL.at_l7, ↓TL.ix_l0, ↓TL.ix_l1, ↓TL.ix_l2, ↓TL.ix_l3, ↓TL.ix_l4, ↓TL.ix_l5, ↓TL.ix_l6, ↓TL.ix_l7, ↓TL.ix_l8, ↓TL.ix_l9, ↓TL.ix_l10, ↓TL.ix_l11, ↓TL.ix_l12, TL.isStr, TL.flatD, TL.inD, TL.isiD, TL.tyD, TL.isNone, TL.eqv_int, TL.eqv_bool, TL.eqv_str, TL.sh_int, TL.sh_bool, TL.sz_le, TL.sz_lt, TL.Sl.held, List.map_cons, List.map_nil, List.cons_append, List.nil_append, List.append_nil, List.length_cons, List.length_nil, List.length_map, List.length_set, List.set_cons_zero, List.set_cons_succ, Nat.reduceLT, List.all_cons, List.all_nil, List.any_cons, List.any_nil, List.zip_cons_cons, List.zip_nil_left, List.zip_nil_right, List.foldl_cons, List.foldl_nil, List.getD_cons_zero, List.getD_cons_succ, List.mem_cons, List.not_mem_nil, forall_eq_or_imp, forall_eq, or_false, false_or, true_or, or_true, true_and, and_true, false_and, and_false, false_implies, implies_true, forall_const, ↓reduceIte, if_true, if_false, Bool.false_eq_true, Bool.true_and, Bool.and_true, Bool.false_and, Bool.and_false, Bool.or_false, Bool.false_or, Bool.or_true, Bool.true_or, Bool.not_true, Bool.not_false, Bool.and_eq_true, Bool.or_eq_true, Bool.not_eq_true', decide_eq_true_eq, decide_eq_false_iff_not, ne_eq, not_false_eq_true, not_true_eq_false, reduceCtorEq, decide_true, decide_false, Nat.reduceAdd, Nat.reduceLeDiff, Nat.reduceEqDiff, TL.all_isInt, TL.map_intOf, TL.all_isBool, TL.map_boolOf, TL.take_ints, TL.drop_ints, List.take_succ_cons, List.take_zero, List.drop_succ_cons, List.drop_zero, List.take_nil, List.drop_nil, TL.fmod_n, TL.fdiv_n, TL.cut_to, TL.cut_from, TL.cut_mid, Int.reduceEq, Int.reduceNe, Int.reduceNeg, Int.reduceAdd, Int.reduceMul, Int.reduceSub, Int.reduceLT, Int.reduceLE, Int.reduceGT, Int.reduceGE, Int.reducePow, Int.reduceToNat, Int.add_zero, Int.zero_add, String.reduceEq, String.reduceBEq]
  unfold intR partR at q
  unfold partR at ps
  by_cases w : b.word = "period"
  · rw [if_pos w] at q ps ⊢
    have pb := part_bot h hk
    have u := h.up k (by rw [h.len]; omega)
    have m0 := h.m0
    have m1 := h.m1
    refine ⟨mok (by omega) (by omega) (by omega) (by omega), ?_⟩
    refine law_fractionP_ok (n + 3) (k := 18) _ _ (szD hd i0) (by unfold Sz; omega) (by decide) (by omega) _ ?_
    walk_at "S"
    rw [← e]
    refine law_owed_ok n b h k _ ?_
    walk_at "S"
    refine law_times_ok (k := 700) (n + 2) _ _ (s.mono (by decide)) (h.rate.mono (by decide)) (by decide) _ ?_
    walk_at "S"
    exact law_times_ok (k := 700) (n + 2) _ _ ((s.mul h.rate).mono (by decide)) (ps.mono (by decide)) (by decide) _ q
  · rw [if_neg w] at q ps ⊢
    refine law_count_ok n b.word _ _ i0 hd _ ?_
    walk_at "S"
    rw [← e]
    refine law_owed_ok n b h k _ ?_
    walk_at "S"
    refine law_times_ok (k := 700) (n + 2) _ _ (s.mono (by decide)) (h.rate.mono (by decide)) (by decide) _ ?_
    walk_at "S"
    exact law_times_ok (k := 700) (n + 2) _ _ ((s.mul h.rate).mono (by decide)) (ps.mono (by decide)) (by decide) _ q
theorem law_flows_ok (n : Nat) (b : Bond) (h : b.Ok) (Q : RV → List D → Prop) (q : Q (.fz (.tuple (flD b))) []) : run tb.G pr (n + 7) "_law_flows" [b.d] Q := by
  rw [e_law_flows]; unfold b_law_flows
  have e : b.d = .tuple [.tuple (b.ds.map .int), frD b.rate, .int b.m, .str b.word, .tuple (pL b.bs)] := rfl
  have l1 := h.l1
  have len := h.len
  rw [e]
  simp only [List.length_map, ↓TL.x_var, ↓TL.x_lit, ↓TL.x_glb, ↓TL.x_tup, ↓TL.x_lst, ↓TL.x_emp, ↓TL.x_rvs, ↓TL.x_met, ↓TL.x_dc1, ↓TL.x_dc2, ↓TL.x_bin, ↓TL.x_neg, ↓TL.x_nt, ↓TL.x_cmp, ↓TL.x_chn, ↓TL.x_and, ↓TL.x_or, ↓TL.x_ife, ↓TL.x_idx, ↓TL.x_slc, ↓TL.x_call, ↓TL.x_pcall, ↓TL.x_bl1, ↓TL.x_bl2, ↓TL.x_isi, ↓TL.x_pop, ↓TL.x_lc, ↓TL.x_lc2, ↓TL.x_nil, ↓TL.x_cons, ↓TL.x_no, ↓TL.x_so, ↓TL.x_tof, ↓TL.x_tand, ↓TL.x_tor, ↓TL.x_tnt, ↓TL.x_tite, ↓TL.x_ctno, ↓TL.x_ctso, ↓TL.x_iof, ↓TL.x_irng1, ↓TL.x_irng2, ↓TL.x_irng3, ↓TL.x_ienum, ↓TL.x_izip, ↓TL.x_irev, ↓TL.s_asg_, ↓TL.s_par_, ↓TL.s_sub_, ↓TL.s_aug_, ↓TL.s_swp_, ↓TL.s_augs_, ↓TL.s_subW, ↓TL.s_exp_, ↓TL.s_app_, ↓TL.s_ite_, ↓TL.s_for_, ↓TL.s_whl_, ↓TL.s_retN_, ↓TL.s_brk_, ↓TL.s_cnt_, ↓TL.s_pas_, ↓TL.ss_nil_, ↓TL.ss_cons_, ↓TL.o_dc1, ↓TL.s_ret_dc1, ↓TL.o_dc2, ↓TL.s_ret_dc2, ↓TL.o_emp, ↓TL.s_ret_emp, ↓TL.o_rvs, ↓TL.s_ret_rvs, ↓TL.o_met, ↓TL.s_ret_met, ↓TL.o_lit, ↓TL.s_ret_lit, ↓TL.o_glb, ↓TL.s_ret_glb, ↓TL.o_tup, ↓TL.s_ret_tup, ↓TL.o_lst, ↓TL.s_ret_lst, ↓TL.o_bin, ↓TL.s_ret_bin, ↓TL.o_neg, ↓TL.s_ret_neg, ↓TL.o_nt, ↓TL.s_ret_nt, ↓TL.o_cmp, ↓TL.s_ret_cmp, ↓TL.o_chn, ↓TL.s_ret_chn, ↓TL.o_and, ↓TL.s_ret_and, ↓TL.o_or, ↓TL.s_ret_or, ↓TL.o_ife, ↓TL.s_ret_ife, ↓TL.o_idx, ↓TL.s_ret_idx, ↓TL.o_slc, ↓TL.s_ret_slc, ↓TL.o_call, ↓TL.s_ret_call, ↓TL.o_pcall, ↓TL.s_ret_pcall, ↓TL.o_bl1, ↓TL.s_ret_bl1, ↓TL.o_bl2, ↓TL.s_ret_bl2, ↓TL.o_isi, ↓TL.s_ret_isi, ↓TL.o_pop, ↓TL.s_ret_pop, ↓TL.o_lc, ↓TL.s_ret_lc, ↓TL.o_lc2, ↓TL.s_ret_lc2, ↓TL.o_var_, ↓TL.s_retv_, ↓TL.l_val, ↓TL.l_slot, ↓TL.tg_fz, ↓TL.tg_own, ↓TL.tg_tup, ↓TL.tg_nil, ↓TL.tg_cons, ↓TL.wv_fz, ↓TL.wv_own, ↓TL.wv_s, ↓TL.lk_fz, ↓TL.lk_own, ↓TL.lk_bor, ↓TL.lk_s, ↓TL.cs_s, ↓TL.cs_un, ↓TL.cs_fz, ↓TL.cs_own, ↓TL.hd_own, ↓TL.hd_bor, ↓TL.hd_s, ↓TL.sh_own, ↓TL.sh_bor, ↓TL.sh_s, ↓TL.st_0, ↓TL.st_s, ↓TL.fr_nil, ↓TL.fr_cons, ↓TL.wp_nil, ↓TL.wp_cons, ↓TL.bk_nil, ↓TL.bk_cons, ↓TL.b_addI, ↓TL.b_subI, ↓TL.b_mulI, ↓TL.b_divI, ↓TL.b_modI, ↓TL.b_powI, ↓TL.b_addS, ↓TL.b_addT, ↓TL.b_addL, ↓TL.b_mulL, ↓TL.b_mulT, ↓TL.a_add, ↓TL.a_sub, ↓TL.a_mul, ↓TL.c_Eq_int, ↓TL.c_Eq_bool, ↓TL.c_Eq_str, ↓TL.c_Eq_tuple, ↓TL.c_Eq_list, ↓TL.c_NotEq_int, ↓TL.c_NotEq_bool, ↓TL.c_NotEq_str, ↓TL.c_NotEq_tuple, ↓TL.c_NotEq_list, ↓TL.c_Lt, ↓TL.c_LtE, ↓TL.c_Gt, ↓TL.c_GtE, ↓TL.c_LtE_b, ↓TL.c_Is_b, ↓TL.c_Is_n, ↓TL.c_IsNot_b, ↓TL.c_IsNot_n, ↓TL.c_In_tuple, ↓TL.c_In_list, ↓TL.c_NotIn_tuple, ↓TL.c_NotIn_list, ↓TL.t_non, ↓TL.t_bl, ↓TL.t_int, ↓TL.t_str, ↓TL.t_lst, ↓TL.t_tup, ↓TL.i_lst, ↓TL.i_tup, ↓TL.sl_lst, ↓TL.sl_tup, ↓TL.as_i, ↓TL.as_b, ↓TL.it_l, ↓TL.it_t, ↓TL.ls_l, ↓TL.zp_n, ↓TL.zp_f, ↓TL.zp_s, ↓TL.rv_l, ↓TL.rv_t, ↓TL.m_sw, ↓TL.m_ew, ↓TL.m_ix, ↓TL.m_ixd, ↓TL.tm_ixd, ↓TL.tm_sw, ↓TL.tm_ew, ↓TL.tm_ix, ↓TL.c_Lt_t, ↓TL.f_lenL, ↓TL.f_lenT, ↓TL.f_lenS, ↓TL.f_abs, ↓TL.f_min, ↓TL.f_max, ↓TL.f_sum, ↓TL.f_all, ↓TL.f_any, ↓TL.f_sort, ↓TL.f_ssetL, ↓TL.f_ssetT, ↓TL.f_trng, ↓TL.f_denL, ↓TL.f_denT, ↓TL.f_tupL, ↓TL.f_tupT, ↓TL.f_lstL, ↓TL.f_lstT, ↓TL.f_intI, ↓TL.f_intB, ↓TL.f_str, ↓TL.g_min, ↓TL.g_max, ↓TL.rd_fz, ↓TL.rd_own, ↓TL.rs_fz, ↓TL.rs_own, ↓TL.ou_b, ↓TL.at_l0, ↓TL.at_l1, ↓TL.at_l2, ↓TL.at_l3, ↓TL.at_l4, ↓TL.at_l5, ↓TL.at_l6, ↓TL.at_l7, ↓TL.ix_l0, ↓TL.ix_l1, ↓TL.ix_l2, ↓TL.ix_l3, ↓TL.ix_l4, ↓TL.ix_l5, ↓TL.ix_l6, ↓TL.ix_l7, ↓TL.ix_l8, ↓TL.ix_l9, ↓TL.ix_l10, ↓TL.ix_l11, ↓TL.ix_l12, TL.isStr, TL.flatD, TL.inD, TL.isiD, TL.tyD, TL.isNone, TL.eqv_int, TL.eqv_bool, TL.eqv_str, TL.sh_int, TL.sh_bool, TL.sz_le, TL.sz_lt, TL.Sl.held, List.map_cons, List.map_nil, List.cons_append, List.nil_append, List.append_nil, List.length_cons, List.length_nil, List.length_map, List.length_set, List.set_cons_zero, List.set_cons_succ, Nat.reduceLT, List.all_cons, List.all_nil, List.any_cons, List.any_nil, List.zip_cons_cons, List.zip_nil_left, List.zip_nil_right, List.foldl_cons, List.foldl_nil, List.getD_cons_zero, List.getD_cons_succ, List.mem_cons, List.not_mem_nil, forall_eq_or_imp, forall_eq, or_false, false_or, true_or, or_true, true_and, and_true, false_and, and_false, false_implies, implies_true, forall_const, ↓reduceIte, if_true, if_false, Bool.false_eq_true, Bool.true_and, Bool.and_true, Bool.false_and, Bool.and_false, Bool.or_false, Bool.false_or, Bool.or_true, Bool.true_or, Bool.not_true, Bool.not_false, Bool.and_eq_true, Bool.or_eq_true, Bool.not_eq_true', decide_eq_true_eq, decide_eq_false_iff_not, ne_eq, not_false_eq_true, not_true_eq_false, reduceCtorEq, decide_true, decide_false, Nat.reduceAdd, Nat.reduceLeDiff, Nat.reduceEqDiff, TL.all_isInt, TL.map_intOf, TL.all_isBool, TL.map_boolOf, TL.take_ints, TL.drop_ints, List.take_succ_cons, List.take_zero, List.drop_succ_cons, List.drop_zero, List.take_nil, List.drop_nil, TL.fmod_n, TL.fdiv_n, TL.cut_to, TL.cut_from, TL.cut_mid, Int.reduceEq, Int.reduceNe, Int.reduceNeg, Int.reduceAdd, Int.reduceMul, Int.reduceSub, Int.reduceLT, Int.reduceLE, Int.reduceGT, Int.reduceGE, Int.reducePow, Int.reduceToNat, Int.add_zero, Int.zero_add, String.reduceEq, String.reduceBEq]
  refine ⟨⟨by omega, by omega⟩, ?_⟩
  refine for_inv (fun i ρ => i ≤ b.bs.length ∧ ∃ s1, nb s1 = true ∧ ρ = [.fz b.d, s1, .fz (.tuple (b.ds.map .int)), .own ((List.range i).map (flowD b))]) ⟨by omega, _, rfl, rfl⟩ (fun i d ρ n1 n4 hd hp' k1 k4 => ?_) (fun ρ hp' => ?_)
  · obtain ⟨hi, s1, h1, rfl⟩ := hp'
    obtain ⟨rfl, hj⟩ := rng_get hd
    have hi : i < b.bs.length := by omega
    have id := h.inD (i + 1) (by omega)
    rw [e]
    simp only [cs_nb h1, at_i (show i < b.ds.length by omega), at_i1 (show i + 1 < b.ds.length by omega), at_p hi, ↓TL.x_var, ↓TL.x_lit, ↓TL.x_glb, ↓TL.x_tup, ↓TL.x_lst, ↓TL.x_emp, ↓TL.x_rvs, ↓TL.x_met, ↓TL.x_dc1, ↓TL.x_dc2, ↓TL.x_bin, ↓TL.x_neg, ↓TL.x_nt, ↓TL.x_cmp, ↓TL.x_chn, ↓TL.x_and, ↓TL.x_or, ↓TL.x_ife, ↓TL.x_idx, ↓TL.x_slc, ↓TL.x_call, ↓TL.x_pcall, ↓TL.x_bl1, ↓TL.x_bl2, ↓TL.x_isi, ↓TL.x_pop, ↓TL.x_lc, ↓TL.x_lc2, ↓TL.x_nil, ↓TL.x_cons, ↓TL.x_no, ↓TL.x_so, ↓TL.x_tof, ↓TL.x_tand, ↓TL.x_tor, ↓TL.x_tnt, ↓TL.x_tite, ↓TL.x_ctno, ↓TL.x_ctso, ↓TL.x_iof, ↓TL.x_irng1, ↓TL.x_irng2, ↓TL.x_irng3, ↓TL.x_ienum, ↓TL.x_izip, ↓TL.x_irev, ↓TL.s_asg_, ↓TL.s_par_, ↓TL.s_sub_, ↓TL.s_aug_, ↓TL.s_swp_, ↓TL.s_augs_, ↓TL.s_subW, ↓TL.s_exp_, ↓TL.s_app_, ↓TL.s_ite_, ↓TL.s_for_, ↓TL.s_whl_, ↓TL.s_retN_, ↓TL.s_brk_, ↓TL.s_cnt_, ↓TL.s_pas_, ↓TL.ss_nil_, ↓TL.ss_cons_, ↓TL.o_dc1, ↓TL.s_ret_dc1, ↓TL.o_dc2, ↓TL.s_ret_dc2, ↓TL.o_emp, ↓TL.s_ret_emp, ↓TL.o_rvs, ↓TL.s_ret_rvs, ↓TL.o_met, ↓TL.s_ret_met, ↓TL.o_lit, ↓TL.s_ret_lit, ↓TL.o_glb, ↓TL.s_ret_glb, ↓TL.o_tup, ↓TL.s_ret_tup, ↓TL.o_lst, ↓TL.s_ret_lst, ↓TL.o_bin, ↓TL.s_ret_bin, ↓TL.o_neg, ↓TL.s_ret_neg, ↓TL.o_nt, ↓TL.s_ret_nt, ↓TL.o_cmp, ↓TL.s_ret_cmp, ↓TL.o_chn, ↓TL.s_ret_chn, ↓TL.o_and, ↓TL.s_ret_and, ↓TL.o_or, ↓TL.s_ret_or, ↓TL.o_ife, ↓TL.s_ret_ife, ↓TL.o_idx, ↓TL.s_ret_idx, ↓TL.o_slc, ↓TL.s_ret_slc, ↓TL.o_call, ↓TL.s_ret_call, ↓TL.o_pcall, ↓TL.s_ret_pcall, ↓TL.o_bl1, ↓TL.s_ret_bl1, ↓TL.o_bl2, ↓TL.s_ret_bl2, ↓TL.o_isi, ↓TL.s_ret_isi, ↓TL.o_pop, ↓TL.s_ret_pop, ↓TL.o_lc, ↓TL.s_ret_lc, ↓TL.o_lc2, ↓TL.s_ret_lc2, ↓TL.o_var_, ↓TL.s_retv_, ↓TL.l_val, ↓TL.l_slot, ↓TL.tg_fz, ↓TL.tg_own, ↓TL.tg_tup, ↓TL.tg_nil, ↓TL.tg_cons, ↓TL.wv_fz, ↓TL.wv_own, ↓TL.wv_s, ↓TL.lk_fz, ↓TL.lk_own, ↓TL.lk_bor, ↓TL.lk_s, ↓TL.cs_s, ↓TL.cs_un, ↓TL.cs_fz, ↓TL.cs_own, ↓TL.hd_own, ↓TL.hd_bor, ↓TL.hd_s, ↓TL.sh_own, ↓TL.sh_bor, ↓TL.sh_s, ↓TL.st_0, ↓TL.st_s, ↓TL.fr_nil, ↓TL.fr_cons, ↓TL.wp_nil, ↓TL.wp_cons, ↓TL.bk_nil, ↓TL.bk_cons, ↓TL.b_addI, ↓TL.b_subI, ↓TL.b_mulI, ↓TL.b_divI, ↓TL.b_modI, ↓TL.b_powI, ↓TL.b_addS, ↓TL.b_addT, ↓TL.b_addL, ↓TL.b_mulL, ↓TL.b_mulT, ↓TL.a_add, ↓TL.a_sub, ↓TL.a_mul, ↓TL.c_Eq_int, ↓TL.c_Eq_bool, ↓TL.c_Eq_str, ↓TL.c_Eq_tuple, ↓TL.c_Eq_list, ↓TL.c_NotEq_int, ↓TL.c_NotEq_bool, ↓TL.c_NotEq_str, ↓TL.c_NotEq_tuple, ↓TL.c_NotEq_list, ↓TL.c_Lt, ↓TL.c_LtE, ↓TL.c_Gt, ↓TL.c_GtE, ↓TL.c_LtE_b, ↓TL.c_Is_b, ↓TL.c_Is_n, ↓TL.c_IsNot_b, ↓TL.c_IsNot_n, ↓TL.c_In_tuple, ↓TL.c_In_list, ↓TL.c_NotIn_tuple, ↓TL.c_NotIn_list, ↓TL.t_non, ↓TL.t_bl, ↓TL.t_int, ↓TL.t_str, ↓TL.t_lst, ↓TL.t_tup, ↓TL.i_lst, ↓TL.i_tup, ↓TL.sl_lst, ↓TL.sl_tup, ↓TL.as_i, ↓TL.as_b, ↓TL.it_l, ↓TL.it_t, ↓TL.ls_l, ↓TL.zp_n, ↓TL.zp_f, ↓TL.zp_s, ↓TL.rv_l, ↓TL.rv_t, ↓TL.m_sw, ↓TL.m_ew, ↓TL.m_ix, ↓TL.m_ixd, ↓TL.tm_ixd, ↓TL.tm_sw, ↓TL.tm_ew, ↓TL.tm_ix, ↓TL.c_Lt_t, ↓TL.f_lenL, ↓TL.f_lenT, ↓TL.f_lenS, ↓TL.f_abs, ↓TL.f_min, ↓TL.f_max, ↓TL.f_sum, ↓TL.f_all, ↓TL.f_any, ↓TL.f_sort, ↓TL.f_ssetL, ↓TL.f_ssetT, ↓TL.f_trng, ↓TL.f_denL, ↓TL.f_denT, ↓TL.f_tupL, ↓TL.f_tupT, ↓TL.f_lstL, ↓TL.f_lstT, ↓TL.f_intI, ↓TL.f_intB, ↓TL.f_str, ↓TL.g_min, ↓TL.g_max, ↓TL.rd_fz, ↓TL.rd_own, ↓TL.rs_fz, ↓TL.rs_own, ↓TL.ou_b, ↓TL.at_l0, ↓TL.at_l1, ↓TL.at_l2, ↓TL.at_l3, ↓TL.at_l4, ↓TL.at_l5, ↓TL.at_l6, ↓TL.at_l7, ↓TL.ix_l0, ↓TL.ix_l1, ↓TL.ix_l2, ↓TL.ix_l3, ↓TL.ix_l4, ↓TL.ix_l5, ↓TL.ix_l6, ↓TL.ix_l7, ↓TL.ix_l8, ↓TL.ix_l9, ↓TL.ix_l10, ↓TL.ix_l11, ↓TL.ix_l12, TL.isStr, TL.flatD, TL.inD, TL.isiD, TL.tyD, TL.isNone, TL.eqv_int, TL.eqv_bool, TL.eqv_str, TL.sh_int, TL.sh_bool, TL.sz_le, TL.sz_lt, TL.Sl.held, List.map_cons, List.map_nil, List.cons_append, List.nil_append, List.append_nil, List.length_cons, List.length_nil, List.length_map, List.length_set, List.set_cons_zero, List.set_cons_succ, Nat.reduceLT, List.all_cons, List.all_nil, List.any_cons, List.any_nil, List.zip_cons_cons, List.zip_nil_left, List.zip_nil_right, List.foldl_cons, List.foldl_nil, List.getD_cons_zero, List.getD_cons_succ, List.mem_cons, List.not_mem_nil, forall_eq_or_imp, forall_eq, or_false, false_or, true_or, or_true, true_and, and_true, false_and, and_false, false_implies, implies_true, forall_const, ↓reduceIte, if_true, if_false, Bool.false_eq_true, Bool.true_and, Bool.and_true, Bool.false_and, Bool.and_false, Bool.or_false, Bool.false_or, Bool.or_true, Bool.true_or, Bool.not_true, Bool.not_false, Bool.and_eq_true, Bool.or_eq_true, Bool.not_eq_true', decide_eq_true_eq, decide_eq_false_iff_not, ne_eq, not_false_eq_true, not_true_eq_false, reduceCtorEq, decide_true, decide_false, Nat.reduceAdd, Nat.reduceLeDiff, Nat.reduceEqDiff, TL.all_isInt, TL.map_intOf, TL.all_isBool, TL.map_boolOf, TL.take_ints, TL.drop_ints, List.take_succ_cons, List.take_zero, List.drop_succ_cons, List.drop_zero, List.take_nil, List.drop_nil, TL.fmod_n, TL.fdiv_n, TL.cut_to, TL.cut_from, TL.cut_mid, Int.reduceEq, Int.reduceNe, Int.reduceNeg, Int.reduceAdd, Int.reduceMul, Int.reduceSub, Int.reduceLT, Int.reduceLE, Int.reduceGT, Int.reduceGE, Int.reducePow, Int.reduceToNat, Int.add_zero, Int.zero_add, String.reduceEq, String.reduceBEq]
    rw [← e]
    refine law_interest_ok n b h i hi _ id _ ?_
    walk_at "S"
    refine law_plus_ok (k := 700) (n + 3) _ _ ((h.bs.getD (by decide) i).mono (by decide)) ((intR_sz h hi id).mono (by decide)) (by decide) _ ?_
    walk_at "S"
    refine ⟨szl (by simp; omega), k1 _ ⟨by omega, .fz (.int i), rfl, ?_⟩⟩
    rw [← flD_snoc, Rat.add_comm]; rfl
  · obtain ⟨hi, s1, h1, rfl⟩ := hp'
    rw [rng_len, show ((b.ds.length : Int) - 1 - 0).toNat = b.bs.length by omega]
    walk_at "S"
    exact q
end Pr
end
section
namespace Pr
open PySem TL
theorem draw_frac_ok (n : Nat) {b : Int} {pd : List D} (most : Int) (m0 : 1 ≤ most) (m1 : most ≤ 200) (Q : RV → List D → Prop) (hp : PenOk b pd) (hb : b ≤ 999000)
    (q : ∀ (a : Rat) (pd' : List D), RS 15 a → PenOk (b + 4) pd' → Q (.fz (frD a)) pd') : run tb.G pr (n + 4) "_law_draw_fraction" [.list pd, .int most] Q := by
  rw [e_law_draw_fraction]; unfold b_law_draw_fraction
  walk_at "S"
  refine take_ok (n + 1) 40 _ hp (by omega) (by omega) (by omega) fun x1 pd u0 u1 hp => ?_
  walk_at "S"
  refine one_of_ok n _ hp (by omega) (by simp) (by simp) fun v hv pd hp => ?_
  obtain ⟨bot, rfl, b0, b1⟩ : ∃ y : Int, v = .int y ∧ 1 ≤ y ∧ y ≤ 100 := by
    simp only [List.mem_cons, List.not_mem_nil, or_false] at hv
    rcases hv with rfl | rfl | rfl | rfl | rfl | rfl | rfl | rfl | rfl <;> exact ⟨_, rfl, by omega, by omega⟩
  walk_at "S"
  have g0 : 1 ≤ most * bot ∧ most * bot ≤ 20000 := by
    have a1 : most * bot ≤ 200 * bot := Int.mul_le_mul_of_nonneg_right m1 (by omega)
    have a2 : 1 * bot ≤ most * bot := Int.mul_le_mul_of_nonneg_right m0 (by omega)
    omega
  have mo : MulOk most bot := mok (by omega) (by omega) (by omega) (by omega)
  generalize most * bot = g at *
  refine ⟨mo, ?_⟩
  refine take_ok (n + 1) (g + 1) _ hp (by omega) (by omega) (by omega) fun x3 pd w0 w1 hp => ?_
  walk_at "S"
  refine ⟨mo, ?_⟩
  refine one_of_ok n _ hp (by omega) (by simp) (by simp) fun v hv pd hp => ?_
  obtain ⟨top, rfl, t0, t1⟩ : ∃ y : Int, v = .int y ∧ 0 ≤ y ∧ y ≤ 20000 := by
    simp only [List.mem_cons, List.not_mem_nil, or_false] at hv
    rcases hv with rfl | rfl | rfl | rfl <;> exact ⟨_, rfl, by omega, by omega⟩
  walk_at "S"
  have st : Sz 15 top := by unfold Sz; omega
  have sb : Sz 15 bot := by unfold Sz; omega
  exact law_fractionP_ok (n + 1) _ _ st sb (by decide) (by omega) _ (q _ _ (.of st sb (by omega)) (hp.mono (by omega)))
/-- days drawn -/
structure Days (start : Int) (ds : List Int) : Prop where
  l0 : 1 ≤ ds.length
  first : ds.getD 0 0 = start
  up : ∀ i, i + 1 < ds.length → ds.getD i 0 < ds.getD (i + 1) 0 ∧ ds.getD (i + 1) 0 ≤ ds.getD i 0 + 400
theorem getD_app {ds : List Int} {y : Int} {i : Nat} (h : i < ds.length) : (ds ++ [y]).getD i 0 = ds.getD i 0 := by
  rw [List.getD_eq_getElem?_getD, List.getD_eq_getElem?_getD, List.getElem?_append_left h]
theorem getD_end {ds : List Int} {y : Int} : (ds ++ [y]).getD ds.length 0 = y := by
  rw [List.getD_eq_getElem?_getD, List.getElem?_append_right (by omega)]; simp
theorem Days.snoc {start : Int} {ds : List Int} (h : Days start ds) {g : Int} (g0 : 1 ≤ g) (g1 : g ≤ 400) : Days start (ds ++ [ds.getD (ds.length - 1) 0 + g]) := by
  have l0 := h.l0
  refine ⟨by simp, by rw [getD_app (by omega)]; exact h.first, fun i hi => ?_⟩
  rw [List.length_append, List.length_singleton] at hi
  rcases Nat.lt_or_ge (i + 1) ds.length with z | z
  · rw [getD_app (by omega), getD_app z]; exact h.up i z
  · have e : i + 1 = ds.length := by omega
    rw [getD_app (by omega), e, getD_end, show ds.length - 1 = i by omega]
    omega
theorem Days.bd {start : Int} {ds : List Int} (h : Days start ds) : ∀ i, i < ds.length → start ≤ ds.getD i 0 ∧ ds.getD i 0 ≤ start + 400 * i
  | 0, _ => by rw [h.first]; omega
  | i + 1, hi => by
    have := h.bd i (by omega)
    have := h.up i hi
    omega
theorem atn_ints {ds : List Int} {P : D → Prop} (h : 1 ≤ ds.length) : (∃ d, L2.atI (ds.map PyData.int) (-1) = some d ∧ P d) = P (.int (ds.getD (ds.length - 1) 0)) := by
  rw [at_neg (by omega) (by rw [List.length_map]; omega), List.length_map, show ((-1 : Int) + ds.length).toNat = ds.length - 1 by omega, List.getD_eq_getElem?_getD, List.getElem?_map, List.getD_eq_getElem?_getD, List.getElem?_eq_getElem (show ds.length - 1 < ds.length by omega)]
  rfl
theorem draw_days_ok (n : Nat) {b : Int} {pd : List D} (start most : Int) (m0 : 1 ≤ most) (m1 : most ≤ 12) (s0 : 0 ≤ start) (s1 : start ≤ 101000) (Q : RV → List D → Prop) (hp : PenOk b pd) (hb : b ≤ 900000)
    (q : ∀ (ds : List Int) (pd' : List D), Days start ds → 2 ≤ ds.length → ds.length ≤ most + 1 → PenOk (b + 30) pd' → Q (.fz (.tuple (ds.map .int))) pd') : run tb.G pr (n + 5) "_law_draw_days" [.list pd, .int start, .int most] Q := by
  rw [e_law_draw_days]; unfold b_law_draw_days
  walk_at "S"
  refine take_ok (n + 2) most _ hp (by omega) (by omega) (by omega) fun c pd c0 c1 hp => ?_
  walk_at "S"
  refine ⟨⟨by omega, by omega⟩, ?_⟩
  refine for_inv (fun i ρ => (i : Int) ≤ 1 + c ∧ ∃ (ds : List Int) (pd : List D) (s4 : Sl), Days start ds ∧ ds.length = i + 1 ∧ PenOk (b + 1 + 2 * i) pd ∧ nb s4 = true ∧ ρ = [.bor pd, .fz (.int start), .fz (.int most), .own (ds.map .int), s4]) ⟨by omega, [start], pd, _, ⟨by simp, rfl, fun i h => by simp at h⟩, rfl, hp.mono (by omega), rfl, rfl⟩ (fun i d ρ n1 n4 hd hp' k1 k4 => ?_) (fun ρ hp' => ?_)
  · obtain ⟨hi, ds, pd, s4, hds, hl, hp, h4, rfl⟩ := hp'
    obtain ⟨rfl, hj⟩ := rng_get hd
    have bd := hds.bd (ds.length - 1) (by omega)
    simp only [cs_nb h4, atn_ints hds.l0, ↓TL.x_var, ↓TL.x_lit, ↓TL.x_glb, ↓TL.x_tup, ↓TL.x_lst, ↓TL.x_emp, ↓TL.x_rvs, ↓TL.x_met, ↓TL.x_dc1, ↓TL.x_dc2, ↓TL.x_bin, ↓TL.x_neg, ↓TL.x_nt, ↓TL.x_cmp, ↓TL.x_chn, ↓TL.x_and, ↓TL.x_or, ↓TL.x_ife, ↓TL.x_idx, ↓TL.x_slc, ↓TL.x_call, ↓TL.x_pcall, ↓TL.x_bl1, ↓TL.x_bl2, ↓TL.x_isi, ↓TL.x_pop, ↓TL.x_lc, ↓TL.x_lc2, ↓TL.x_nil, ↓TL.x_cons, ↓TL.x_no, ↓TL.x_so, ↓TL.x_tof, ↓TL.x_tand, ↓TL.x_tor, ↓TL.x_tnt, ↓TL.x_tite, ↓TL.x_ctno, ↓TL.x_ctso, ↓TL.x_iof, ↓TL.x_irng1, ↓TL.x_irng2, ↓TL.x_irng3, ↓TL.x_ienum, ↓TL.x_izip, ↓TL.x_irev, ↓TL.s_asg_, ↓TL.s_par_, ↓TL.s_sub_, ↓TL.s_aug_, ↓TL.s_swp_, ↓TL.s_augs_, ↓TL.s_subW, ↓TL.s_exp_, ↓TL.s_app_, ↓TL.s_ite_, ↓TL.s_for_, ↓TL.s_whl_, ↓TL.s_retN_, ↓TL.s_brk_, ↓TL.s_cnt_, ↓TL.s_pas_, ↓TL.ss_nil_, ↓TL.ss_cons_, ↓TL.o_dc1, ↓TL.s_ret_dc1, ↓TL.o_dc2, ↓TL.s_ret_dc2, ↓TL.o_emp, ↓TL.s_ret_emp, ↓TL.o_rvs, ↓TL.s_ret_rvs, ↓TL.o_met, ↓TL.s_ret_met, ↓TL.o_lit, ↓TL.s_ret_lit, ↓TL.o_glb, ↓TL.s_ret_glb, ↓TL.o_tup, ↓TL.s_ret_tup, ↓TL.o_lst, ↓TL.s_ret_lst, ↓TL.o_bin, ↓TL.s_ret_bin, ↓TL.o_neg, ↓TL.s_ret_neg, ↓TL.o_nt, ↓TL.s_ret_nt, ↓TL.o_cmp, ↓TL.s_ret_cmp, ↓TL.o_chn, ↓TL.s_ret_chn, ↓TL.o_and, ↓TL.s_ret_and, ↓TL.o_or, ↓TL.s_ret_or, ↓TL.o_ife, ↓TL.s_ret_ife, ↓TL.o_idx, ↓TL.s_ret_idx, ↓TL.o_slc, ↓TL.s_ret_slc, ↓TL.o_call, ↓TL.s_ret_call, ↓TL.o_pcall, ↓TL.s_ret_pcall, ↓TL.o_bl1, ↓TL.s_ret_bl1, ↓TL.o_bl2, ↓TL.s_ret_bl2, ↓TL.o_isi, ↓TL.s_ret_isi, ↓TL.o_pop, ↓TL.s_ret_pop, ↓TL.o_lc, ↓TL.s_ret_lc, ↓TL.o_lc2, ↓TL.s_ret_lc2, ↓TL.o_var_, ↓TL.s_retv_, ↓TL.l_val, ↓TL.l_slot, ↓TL.tg_fz, ↓TL.tg_own, ↓TL.tg_tup, ↓TL.tg_nil, ↓TL.tg_cons, ↓TL.wv_fz, ↓TL.wv_own, ↓TL.wv_s, ↓TL.lk_fz, ↓TL.lk_own, ↓TL.lk_bor, ↓TL.lk_s, ↓TL.cs_s, ↓TL.cs_un, ↓TL.cs_fz, ↓TL.cs_own, ↓TL.hd_own, ↓TL.hd_bor, ↓TL.hd_s, ↓TL.sh_own, ↓TL.sh_bor, ↓TL.sh_s, ↓TL.st_0, ↓TL.st_s, ↓TL.fr_nil, ↓TL.fr_cons, ↓TL.wp_nil, ↓TL.wp_cons, ↓TL.bk_nil, ↓TL.bk_cons, ↓TL.b_addI, ↓TL.b_subI, ↓TL.b_mulI, ↓TL.b_divI, ↓TL.b_modI, ↓TL.b_powI, ↓TL.b_addS, ↓TL.b_addT, ↓TL.b_addL, ↓TL.b_mulL, ↓TL.b_mulT, ↓TL.a_add, ↓TL.a_sub, ↓TL.a_mul, ↓TL.c_Eq_int, ↓TL.c_Eq_bool, ↓TL.c_Eq_str, ↓TL.c_Eq_tuple, ↓TL.c_Eq_list, ↓TL.c_NotEq_int, ↓TL.c_NotEq_bool, ↓TL.c_NotEq_str, ↓TL.c_NotEq_tuple, ↓TL.c_NotEq_list, ↓TL.c_Lt, ↓TL.c_LtE, ↓TL.c_Gt, ↓TL.c_GtE, ↓TL.c_LtE_b, ↓TL.c_Is_b, ↓TL.c_Is_n, ↓TL.c_IsNot_b, ↓TL.c_IsNot_n, ↓TL.c_In_tuple, ↓TL.c_In_list, ↓TL.c_NotIn_tuple, ↓TL.c_NotIn_list, ↓TL.t_non, ↓TL.t_bl, ↓TL.t_int, ↓TL.t_str, ↓TL.t_lst, ↓TL.t_tup, ↓TL.i_lst, ↓TL.i_tup, ↓TL.sl_lst, ↓TL.sl_tup, ↓TL.as_i, ↓TL.as_b, ↓TL.it_l, ↓TL.it_t, ↓TL.ls_l, ↓TL.zp_n, ↓TL.zp_f, ↓TL.zp_s, ↓TL.rv_l, ↓TL.rv_t, ↓TL.m_sw, ↓TL.m_ew, ↓TL.m_ix, ↓TL.m_ixd, ↓TL.tm_ixd, ↓TL.tm_sw, ↓TL.tm_ew, ↓TL.tm_ix, ↓TL.c_Lt_t, ↓TL.f_lenL, ↓TL.f_lenT, ↓TL.f_lenS, ↓TL.f_abs, ↓TL.f_min, ↓TL.f_max, ↓TL.f_sum, ↓TL.f_all, ↓TL.f_any, ↓TL.f_sort, ↓TL.f_ssetL, ↓TL.f_ssetT, ↓TL.f_trng, ↓TL.f_denL, ↓TL.f_denT, ↓TL.f_tupL, ↓TL.f_tupT, ↓TL.f_lstL, ↓TL.f_lstT, ↓TL.f_intI, ↓TL.f_intB, ↓TL.f_str, ↓TL.g_min, ↓TL.g_max, ↓TL.rd_fz, ↓TL.rd_own, ↓TL.rs_fz, ↓TL.rs_own, ↓TL.ou_b, ↓TL.at_l0, ↓TL.at_l1, ↓TL.at_l2, ↓TL.at_l3, ↓TL.at_l4, ↓TL.at_l5, ↓TL.at_l6, ↓TL.at_l7, ↓TL.ix_l0, ↓TL.ix_l1, ↓TL.ix_l2, ↓TL.ix_l3, ↓TL.ix_l4, ↓TL.ix_l5, ↓TL.ix_l6, ↓TL.ix_l7, ↓TL.ix_l8, ↓TL.ix_l9, ↓TL.ix_l10, ↓TL.ix_l11, ↓TL.ix_l12, TL.isStr, TL.flatD, TL.inD, TL.isiD, TL.tyD, TL.isNone, TL.eqv_int, TL.eqv_bool, TL.eqv_str, TL.sh_int, TL.sh_bool, TL.sz_le, TL.sz_lt, TL.Sl.held, List.map_cons, List.map_nil, List.cons_append, List.nil_append, List.append_nil, List.length_cons, List.length_nil, List.length_map, List.length_set, List.set_cons_zero, List.set_cons_succ, Nat.reduceLT, List.all_cons, List.all_nil, List.any_cons, List.any_nil, List.zip_cons_cons, List.zip_nil_left, List.zip_nil_right, List.foldl_cons, List.foldl_nil, List.getD_cons_zero, List.getD_cons_succ, List.mem_cons, List.not_mem_nil, forall_eq_or_imp, forall_eq, or_false, false_or, true_or, or_true, true_and, and_true, false_and, and_false, false_implies, implies_true, forall_const, ↓reduceIte, if_true, if_false, Bool.false_eq_true, Bool.true_and, Bool.and_true, Bool.false_and, Bool.and_false, Bool.or_false, Bool.false_or, Bool.or_true, Bool.true_or, Bool.not_true, Bool.not_false, Bool.and_eq_true, Bool.or_eq_true, Bool.not_eq_true', decide_eq_true_eq, decide_eq_false_iff_not, ne_eq, not_false_eq_true, not_true_eq_false, reduceCtorEq, decide_true, decide_false, Nat.reduceAdd, Nat.reduceLeDiff, Nat.reduceEqDiff, TL.all_isInt, TL.map_intOf, TL.all_isBool, TL.map_boolOf, TL.take_ints, TL.drop_ints, List.take_succ_cons, List.take_zero, List.drop_succ_cons, List.drop_zero, List.take_nil, List.drop_nil, TL.fmod_n, TL.fdiv_n, TL.cut_to, TL.cut_from, TL.cut_mid, Int.reduceEq, Int.reduceNe, Int.reduceNeg, Int.reduceAdd, Int.reduceMul, Int.reduceSub, Int.reduceLT, Int.reduceLE, Int.reduceGT, Int.reduceGE, Int.reducePow, Int.reduceToNat, Int.add_zero, Int.zero_add, String.reduceEq, String.reduceBEq]
    refine take_ok (n + 2) 200 _ hp (by omega) (by omega) (by omega) fun x pd x0 x1 hp => ?_
    walk_at "S"
    refine one_of_ok (n + 1) _ hp (by omega) (by simp) (by simp) fun v hv pd hp => ?_
    obtain ⟨g, rfl, g0, g1⟩ : ∃ y : Int, v = .int y ∧ 1 ≤ y ∧ y ≤ 400 := by
      simp only [List.mem_cons, List.not_mem_nil, or_false] at hv
      rcases hv with rfl | rfl | rfl | rfl | rfl | rfl | rfl <;> exact ⟨_, rfl, by omega, by omega⟩
    simp only [List.length_map, ↓TL.x_var, ↓TL.x_lit, ↓TL.x_glb, ↓TL.x_tup, ↓TL.x_lst, ↓TL.x_emp, ↓TL.x_rvs, ↓TL.x_met, ↓TL.x_dc1, ↓TL.x_dc2, ↓TL.x_bin, ↓TL.x_neg, ↓TL.x_nt, ↓TL.x_cmp, ↓TL.x_chn, ↓TL.x_and, ↓TL.x_or, ↓TL.x_ife, ↓TL.x_idx, ↓TL.x_slc, ↓TL.x_call, ↓TL.x_pcall, ↓TL.x_bl1, ↓TL.x_bl2, ↓TL.x_isi, ↓TL.x_pop, ↓TL.x_lc, ↓TL.x_lc2, ↓TL.x_nil, ↓TL.x_cons, ↓TL.x_no, ↓TL.x_so, ↓TL.x_tof, ↓TL.x_tand, ↓TL.x_tor, ↓TL.x_tnt, ↓TL.x_tite, ↓TL.x_ctno, ↓TL.x_ctso, ↓TL.x_iof, ↓TL.x_irng1, ↓TL.x_irng2, ↓TL.x_irng3, ↓TL.x_ienum, ↓TL.x_izip, ↓TL.x_irev, ↓TL.s_asg_, ↓TL.s_par_, ↓TL.s_sub_, ↓TL.s_aug_, ↓TL.s_swp_, ↓TL.s_augs_, ↓TL.s_subW, ↓TL.s_exp_, ↓TL.s_app_, ↓TL.s_ite_, ↓TL.s_for_, ↓TL.s_whl_, ↓TL.s_retN_, ↓TL.s_brk_, ↓TL.s_cnt_, ↓TL.s_pas_, ↓TL.ss_nil_, ↓TL.ss_cons_, ↓TL.o_dc1, ↓TL.s_ret_dc1, ↓TL.o_dc2, ↓TL.s_ret_dc2, ↓TL.o_emp, ↓TL.s_ret_emp, ↓TL.o_rvs, ↓TL.s_ret_rvs, ↓TL.o_met, ↓TL.s_ret_met, ↓TL.o_lit, ↓TL.s_ret_lit, ↓TL.o_glb, ↓TL.s_ret_glb, ↓TL.o_tup, ↓TL.s_ret_tup, ↓TL.o_lst, ↓TL.s_ret_lst, ↓TL.o_bin, ↓TL.s_ret_bin, ↓TL.o_neg, ↓TL.s_ret_neg, ↓TL.o_nt, ↓TL.s_ret_nt, ↓TL.o_cmp, ↓TL.s_ret_cmp, ↓TL.o_chn, ↓TL.s_ret_chn, ↓TL.o_and, ↓TL.s_ret_and, ↓TL.o_or, ↓TL.s_ret_or, ↓TL.o_ife, ↓TL.s_ret_ife, ↓TL.o_idx, ↓TL.s_ret_idx, ↓TL.o_slc, ↓TL.s_ret_slc, ↓TL.o_call, ↓TL.s_ret_call, ↓TL.o_pcall, ↓TL.s_ret_pcall, ↓TL.o_bl1, ↓TL.s_ret_bl1, ↓TL.o_bl2, ↓TL.s_ret_bl2, ↓TL.o_isi, ↓TL.s_ret_isi, ↓TL.o_pop, ↓TL.s_ret_pop, ↓TL.o_lc, ↓TL.s_ret_lc, ↓TL.o_lc2, ↓TL.s_ret_lc2, ↓TL.o_var_, ↓TL.s_retv_, ↓TL.l_val, ↓TL.l_slot, ↓TL.tg_fz, ↓TL.tg_own, ↓TL.tg_tup, ↓TL.tg_nil, ↓TL.tg_cons, ↓TL.wv_fz, ↓TL.wv_own, ↓TL.wv_s, ↓TL.lk_fz, ↓TL.lk_own, ↓TL.lk_bor, ↓TL.lk_s, ↓TL.cs_s, ↓TL.cs_un, ↓TL.cs_fz, ↓TL.cs_own, ↓TL.hd_own, ↓TL.hd_bor, ↓TL.hd_s, ↓TL.sh_own, ↓TL.sh_bor, ↓TL.sh_s, ↓TL.st_0, ↓TL.st_s, ↓TL.fr_nil, ↓TL.fr_cons, ↓TL.wp_nil, ↓TL.wp_cons, ↓TL.bk_nil, ↓TL.bk_cons, ↓TL.b_addI, ↓TL.b_subI, ↓TL.b_mulI, ↓TL.b_divI, ↓TL.b_modI, ↓TL.b_powI, ↓TL.b_addS, ↓TL.b_addT, ↓TL.b_addL, ↓TL.b_mulL, ↓TL.b_mulT, ↓TL.a_add, ↓TL.a_sub, ↓TL.a_mul, ↓TL.c_Eq_int, ↓TL.c_Eq_bool, ↓TL.c_Eq_str, ↓TL.c_Eq_tuple, ↓TL.c_Eq_list, ↓TL.c_NotEq_int, ↓TL.c_NotEq_bool, ↓TL.c_NotEq_str, ↓TL.c_NotEq_tuple, ↓TL.c_NotEq_list, ↓TL.c_Lt, ↓TL.c_LtE, ↓TL.c_Gt, ↓TL.c_GtE, ↓TL.c_LtE_b, ↓TL.c_Is_b, ↓TL.c_Is_n, ↓TL.c_IsNot_b, ↓TL.c_IsNot_n, ↓TL.c_In_tuple, ↓TL.c_In_list, ↓TL.c_NotIn_tuple, ↓TL.c_NotIn_list, ↓TL.t_non, ↓TL.t_bl, ↓TL.t_int, ↓TL.t_str, ↓TL.t_lst, ↓TL.t_tup, ↓TL.i_lst, ↓TL.i_tup, ↓TL.sl_lst, ↓TL.sl_tup, ↓TL.as_i, ↓TL.as_b, ↓TL.it_l, ↓TL.it_t, ↓TL.ls_l, ↓TL.zp_n, ↓TL.zp_f, ↓TL.zp_s, ↓TL.rv_l, ↓TL.rv_t, ↓TL.m_sw, ↓TL.m_ew, ↓TL.m_ix, ↓TL.m_ixd, ↓TL.tm_ixd, ↓TL.tm_sw, ↓TL.tm_ew, ↓TL.tm_ix, ↓TL.c_Lt_t, ↓TL.f_lenL, ↓TL.f_lenT, ↓TL.f_lenS, ↓TL.f_abs, ↓TL.f_min, ↓TL.f_max, ↓TL.f_sum, ↓TL.f_all, ↓TL.f_any, ↓TL.f_sort, ↓TL.f_ssetL, ↓TL.f_ssetT, ↓TL.f_trng, ↓TL.f_denL, ↓TL.f_denT, ↓TL.f_tupL, ↓TL.f_tupT, ↓TL.f_lstL, ↓TL.f_lstT, ↓TL.f_intI, ↓TL.f_intB, ↓TL.f_str, ↓TL.g_min, ↓TL.g_max, ↓TL.rd_fz, ↓TL.rd_own, ↓TL.rs_fz, ↓TL.rs_own, ↓TL.ou_b, ↓TL.at_l0, ↓TL.at_l1, ↓TL.at_l2, ↓TL.at_l3, ↓TL.at_l4, ↓TL.at_l5, ↓TL.at_l6, ↓TL.at_l7, ↓TL.ix_l0, ↓TL.ix_l1, ↓TL.ix_l2, ↓TL.ix_l3, ↓TL.ix_l4, ↓TL.ix_l5, ↓TL.ix_l6, ↓TL.ix_l7, ↓TL.ix_l8, ↓TL.ix_l9, ↓TL.ix_l10, ↓TL.ix_l11, ↓TL.ix_l12, TL.isStr, TL.flatD, TL.inD, TL.isiD, TL.tyD, TL.isNone, TL.eqv_int, TL.eqv_bool, TL.eqv_str, TL.sh_int, TL.sh_bool, TL.sz_le, TL.sz_lt, TL.Sl.held, List.map_cons, List.map_nil, List.cons_append, List.nil_append, List.append_nil, List.length_cons, List.length_nil, List.length_map, List.length_set, List.set_cons_zero, List.set_cons_succ, Nat.reduceLT, List.all_cons, List.all_nil, List.any_cons, List.any_nil, List.zip_cons_cons, List.zip_nil_left, List.zip_nil_right, List.foldl_cons, List.foldl_nil, List.getD_cons_zero, List.getD_cons_succ, List.mem_cons, List.not_mem_nil, forall_eq_or_imp, forall_eq, or_false, false_or, true_or, or_true, true_and, and_true, false_and, and_false, false_implies, implies_true, forall_const, ↓reduceIte, if_true, if_false, Bool.false_eq_true, Bool.true_and, Bool.and_true, Bool.false_and, Bool.and_false, Bool.or_false, Bool.false_or, Bool.or_true, Bool.true_or, Bool.not_true, Bool.not_false, Bool.and_eq_true, Bool.or_eq_true, Bool.not_eq_true', decide_eq_true_eq, decide_eq_false_iff_not, ne_eq, not_false_eq_true, not_true_eq_false, reduceCtorEq, decide_true, decide_false, Nat.reduceAdd, Nat.reduceLeDiff, Nat.reduceEqDiff, TL.all_isInt, TL.map_intOf, TL.all_isBool, TL.map_boolOf, TL.take_ints, TL.drop_ints, List.take_succ_cons, List.take_zero, List.drop_succ_cons, List.drop_zero, List.take_nil, List.drop_nil, TL.fmod_n, TL.fdiv_n, TL.cut_to, TL.cut_from, TL.cut_mid, Int.reduceEq, Int.reduceNe, Int.reduceNeg, Int.reduceAdd, Int.reduceMul, Int.reduceSub, Int.reduceLT, Int.reduceLE, Int.reduceGT, Int.reduceGE, Int.reducePow, Int.reduceToNat, Int.add_zero, Int.zero_add, String.reduceEq, String.reduceBEq]
    refine ⟨szl (by omega), k1 _ ⟨by omega, _, pd, .fz (.int i), hds.snoc g0 g1, by simp [hl], hp.mono (by omega), rfl, ?_⟩⟩
    simp
  · obtain ⟨hi, ds, pd, s4, hds, hl, hp, h4, rfl⟩ := hp'
    rw [rng_len] at hl hp hi
    walk_at "S"
    exact q _ _ hds (by omega) (by omega) (hp.mono (by omega))
def WordOk (w : Str) : Prop := w = "actual/360" ∨ w = "actual/365" ∨ w = "30/360" ∨ w = "30E/360" ∨ w = "period"
theorem word_shd {w : Str} (h : WordOk w) (ms : List Nat) : ShD 20 ms (.str w) := by
  have g : w.cps.size ≤ 20 ∧ ∀ c ∈ w.cps.toList, c < 16 ^ 8 := by
    rcases h with rfl | rfl | rfl | rfl | rfl <;> exact ⟨by decide, by decide⟩
  cases ms <;> exact g
theorem fr_shd {k z m : Nat} {ms : List Nat} {a : Rat} (h : RS k a) (hk : k ≤ z) (hm : 2 ≤ m) : ShD z (m :: ms) (frD a) := ⟨by simpa using hm, fun x hx => by
  have h1 : Sz z a.num := h.1.mono hk
  have h2 : Sz z a.den := h.2.mono hk
  simp only [List.mem_cons, List.not_mem_nil, or_false] at hx
  rcases hx with rfl | rfl <;> cases ms <;> assumption⟩
theorem int_shd {z : Nat} {ms : List Nat} {a : Int} (h : Sz z a) : ShD z ms (.int a) := by cases ms <;> exact h
theorem bond_rep {b : Bond} (h : b.Ok) (hb : PS 20 b.bs) (hw : WordOk b.word) : ReprOk b.d := by
  have l1 := h.l1
  have len := h.len
  refine repr_ok (z := 20) (ms := [5, 21, 2]) ⟨by simp, fun x hx => ?_⟩ (by decide) (by decide) (by decide) (by decide)
  simp only [List.mem_cons, List.not_mem_nil, or_false] at hx
  rcases hx with rfl | rfl | rfl | rfl | rfl
  · refine ⟨by simp; omega, fun x hx => ?_⟩
    obtain ⟨y, hy, rfl⟩ := List.mem_map.mp hx
    have := h.inS y hy
    exact int_shd (by unfold Sz; obtain ⟨z0, z1⟩ := this; omega)
  · exact fr_shd h.rate (by decide) (by decide)
  · exact int_shd (by unfold Sz; have := h.m0; have := h.m1; omega)
  · exact word_shd hw _
  · refine ⟨by rw [pL_len]; omega, fun x hx => ?_⟩
    unfold pL at hx
    obtain ⟨y, hy, rfl⟩ := List.mem_map.mp hx
    exact fr_shd (hb y hy) (by decide) (by decide)
theorem set_last (p : List Rat) (a : Rat) (h : 1 ≤ p.length) : (pL p).set (p.length - 1) (frD a) = pL (p.take (p.length - 1) ++ [a]) := by
  unfold pL
  rw [List.map_append, List.map_take]
  refine List.ext_getElem? fun i => ?_
  rw [List.getElem?_set]
  by_cases e : p.length - 1 = i
  · subst e
    rw [if_pos rfl, if_pos (by simp; omega), List.getElem?_append_right (by simp)]
    simp
  · rw [if_neg e]
    rcases Nat.lt_or_ge i (p.length - 1) with z | z
    · rw [List.getElem?_append_left (by simp; omega), List.getElem?_take_of_lt z]
    · rw [List.getElem?_eq_none (by simp; omega), List.getElem?_eq_none (by simp; omega)]
def MOk (m : Int) : Prop := m = 1 ∨ m = 2 ∨ m = 3 ∨ m = 4 ∨ m = 6 ∨ m = 12
theorem draw_bond_ok (n : Nat) {c : Int} {pd : List D} (start most : Int) (m0 : 1 ≤ most) (m1 : most ≤ 12) (s0 : 0 ≤ start) (s1 : start ≤ 101000) (Q : RV → List D → Prop) (hp : PenOk c pd) (hb : c ≤ 900000)
    (q : ∀ (b : Bond) (pd' : List D), b.Ok → Days start b.ds → b.bs.length ≤ most → PS 15 b.bs → WordOk b.word → MOk b.m → PenOk (c + 200) pd' → Q (.fz b.d) pd') : run tb.G pr (n + 6) "_law_draw_bond" [.list pd, .int start, .int most] Q := by
  rw [e_law_draw_bond]; unfold b_law_draw_bond
  have i100 : (.tuple [.int 100, .int 1] : D) = frD 100 := rfl
  walk_at "S"
  refine draw_days_ok n start most m0 m1 s0 s1 _ hp (by omega) fun ds pd hds l0 l1 hp => ?_
  walk_at "S"
  refine lc_inv (fun i acc ρ => i ≤ ds.length - 1 ∧ ∃ (p : List Rat) (pd : List D) (s7 : Sl), acc = pL p ∧ p.length = i ∧ PS 15 p ∧ PenOk (c + 30 + 5 * i) pd ∧ ρ = [.bor pd, .fz (.int start), .fz (.int most), .fz (.tuple (ds.map .int)), .un, .un, .un, s7]) ⟨by omega, [], pd, _, rfl, rfl, (fun a h => by cases h), hp.mono (by omega), rfl⟩ (fun i d acc ρ K hd hp' k1 => ?_) fun acc ρ hp' => ?_
  · obtain ⟨hi, p, pd, s7, rfl, hl, ps, hp, rfl⟩ := hp'
    have hj := (List.getElem?_eq_some_iff.mp hd).1
    simp only [List.length_map, List.length_drop] at hj
    walk_at "S"
    refine draw_frac_ok (n + 1) 50 (by decide) (by decide) _ hp (by omega) fun a1 pd r1 hp => ?_
    walk_at "S"
    refine one_of_ok (n + 2) _ hp (by omega) (List.cons_ne_nil _ _) (by simp) fun v hv pd hp => ?_
    obtain ⟨a, rfl, ra⟩ : ∃ a : Rat, v = frD a ∧ RS 15 a := by
      rw [frD_0] at hv
      simp only [List.mem_cons, List.not_mem_nil, or_false] at hv
      rcases hv with rfl | rfl | rfl
      · exact ⟨_, rfl, .zero (by omega)⟩
      · exact ⟨_, rfl, .zero (by omega)⟩
      · exact ⟨_, rfl, r1⟩
    exact ⟨szl (by rw [pL_len]; omega), k1 _ _ ⟨by omega, p ++ [a], pd, _, pL_s p a, by simp [hl], ps.snoc ra, hp.mono (by omega), rfl⟩⟩
  · obtain ⟨hi, p, pd, s7, rfl, hl, ps, hp, rfl⟩ := hp'
    have el : (List.map PyData.int (List.drop 1 ds)).length = ds.length - 1 := by simp
    rw [el] at hl hp
    walk_at "S"
    refine draw_frac_ok (n + 1) 100 (by decide) (by decide) _ hp (by omega) fun a1 pd r1 hp => ?_
    walk_at "S"
    refine one_of_ok (n + 2) _ hp (by omega) (List.cons_ne_nil _ _) (by simp) fun v hv pd hp => ?_
    obtain ⟨a, rfl, ra⟩ : ∃ a : Rat, v = frD a ∧ RS 15 a := by
      rw [frD_0, i100] at hv
      simp only [List.mem_cons, List.not_mem_nil, or_false] at hv
      rcases hv with rfl | rfl | rfl | rfl
      · exact ⟨_, rfl, by unfold Sz; decide, by unfold Sz; decide⟩
      · exact ⟨_, rfl, by unfold Sz; decide, by unfold Sz; decide⟩
      · exact ⟨_, rfl, r1⟩
      · exact ⟨_, rfl, .zero (by omega)⟩
    walk_at "S"
    refine ⟨p.length - 1, ?_, ?_⟩
    · unfold L2.ixN
      rw [pL_len, if_neg (by decide), if_pos (by omega)]
      congr 1
      omega
    rw [set_last p a (by omega)]
    have pb : PS 15 (p.take (p.length - 1) ++ [a]) := PS.snoc (fun x hx => ps x (List.mem_of_mem_take hx)) ra
    have lb : (p.take (p.length - 1) ++ [a]).length = ds.length - 1 := by rw [List.length_append, List.length_take]; simp; omega
    generalize p.take (p.length - 1) ++ [a] = bs at *
    refine law_words_ok (n + 4) _ ?_
    walk_at "S"
    refine one_of_ok (n + 2) _ hp (by omega) (List.cons_ne_nil _ _) (by simp) fun v hv pd hp => ?_
    obtain ⟨w, rfl, hw⟩ : ∃ w : Str, v = .str w ∧ WordOk w := by
      simp only [List.cons_append, List.nil_append, List.mem_cons, List.not_mem_nil, or_false] at hv
      rcases hv with rfl | rfl | rfl | rfl | rfl | rfl
      · exact ⟨_, rfl, .inl rfl⟩
      · exact ⟨_, rfl, .inr (.inl rfl)⟩
      · exact ⟨_, rfl, .inr (.inr (.inl rfl))⟩
      · exact ⟨_, rfl, .inr (.inr (.inr (.inl rfl)))⟩
      · exact ⟨_, rfl, .inr (.inr (.inr (.inr rfl)))⟩
      · exact ⟨_, rfl, .inr (.inr (.inr (.inr rfl)))⟩
    walk_at "S"
    refine draw_frac_ok (n + 1) 1 (by decide) (by decide) _ hp (by omega) fun a2 pd r2 hp => ?_
    walk_at "S"
    have e1 : (.tuple [.int 1, .int 20] : D) = frD (Rat.divInt 1 20) := rfl
    have e2 : (.tuple [.int 1, .int 10] : D) = frD (Rat.divInt 1 10) := rfl
    have e3 : (.tuple [.int (-1), .int 50] : D) = frD (Rat.divInt (-1) 50) := rfl
    refine one_of_ok (n + 2) _ hp (by omega) (List.cons_ne_nil _ _) (by simp) fun v hv pd hp => ?_
    obtain ⟨rate, rfl, rr⟩ : ∃ a : Rat, v = frD a ∧ RS 15 a := by
      rw [frD_0, e1, e2, e3] at hv
      simp only [List.mem_cons, List.not_mem_nil, or_false] at hv
      rcases hv with rfl | rfl | rfl | rfl | rfl
      · exact ⟨_, rfl, .zero (by omega)⟩
      · exact ⟨_, rfl, .of (by unfold Sz; decide) (by unfold Sz; decide) (by decide)⟩
      · exact ⟨_, rfl, .of (by unfold Sz; decide) (by unfold Sz; decide) (by decide)⟩
      · exact ⟨_, rfl, .of (by unfold Sz; decide) (by unfold Sz; decide) (by decide)⟩
      · exact ⟨_, rfl, r2⟩
    walk_at "S"
    refine one_of_ok (n + 2) _ hp (by omega) (List.cons_ne_nil _ _) (by simp) fun v hv pd hp => ?_
    obtain ⟨m, rfl, m0, m1, mok⟩ : ∃ y : Int, v = .int y ∧ 1 ≤ y ∧ y ≤ 12 ∧ MOk y := by
      simp only [List.mem_cons, List.not_mem_nil, or_false] at hv
      rcases hv with rfl | rfl | rfl | rfl | rfl | rfl <;> exact ⟨_, rfl, by omega, by omega, by unfold MOk; omega⟩
    walk_at "S"
    refine q ⟨ds, rate, m, w, bs⟩ _ ⟨by show ds.length = bs.length + 1; omega, by show 1 ≤ bs.length; omega, by show bs.length ≤ 20; omega, hds.up, fun i hi => ?_, rr, m0, m1, pb.mono (by decide)⟩ hds (by show (bs.length : Int) ≤ most; omega) pb hw mok (hp.mono (by omega))
    have hi : i < ds.length := hi
    have := hds.bd i hi
    show InD (ds.getD i 0)
    exact ⟨by omega, by omega⟩
end Pr
end
section
namespace Pr
open PySem TL
noncomputable def rowP (b : Bond) (day : Int) (i : Nat) : List Rat := ((List.range i).filter fun k => decide (day < b.ds.getD (k + 1) 0)).map (flowA b)
noncomputable def rowR (b : Bond) (day : Int) : List Rat := rowP b day b.bs.length
def restR (b : Bond) (day : Int) : Rat := match perO b day with
  | some k => Rat.divInt (b.ds.getD (k + 1) 0 - day) (b.ds.getD (k + 1) 0 - b.ds.getD k 0)
  | none => 1
theorem rowP_t {b : Bond} {day : Int} {i : Nat} (h : day < b.ds.getD (i + 1) 0) : pL (rowP b day i) ++ [frD (flowA b i)] = pL (rowP b day (i + 1)) := by
  unfold rowP
  rw [pL_s, List.range_succ, List.filter_append, List.filter_cons_of_pos (by simpa using h)]
  simp
theorem rowP_f {b : Bond} {day : Int} {i : Nat} (h : ¬day < b.ds.getD (i + 1) 0) : rowP b day i = rowP b day (i + 1) := by
  unfold rowP
  rw [List.range_succ, List.filter_append, List.filter_cons_of_neg (by simpa using h)]
  simp
theorem rowP_len (b : Bond) (day : Int) (i : Nat) : (rowP b day i).length ≤ i := by
  unfold rowP
  rw [List.length_map]
  have := List.length_filter_le (fun k => decide (day < b.ds.getD (k + 1) 0)) (List.range i)
  rw [List.length_range] at this
  exact this
theorem flD_get {b : Bond} {i : Nat} {d : D} (h : (flD b)[i]? = some d) : i < b.bs.length ∧ d = flowD b i := by
  unfold flD at h
  have hi := (List.getElem?_eq_some_iff.mp h).1
  rw [List.length_map, List.length_range] at hi
  rw [List.getElem?_map, List.getElem?_range hi] at h
  cases h
  exact ⟨hi, rfl⟩
theorem flD_len (b : Bond) : (flD b).length = b.bs.length := by unfold flD; simp
theorem row_of_ok (n : Nat) (b : Bond) (h : b.Ok) (day : Int) (Q : RV → List D → Prop) (q : Q (.fz (.tuple [pT (rowR b day), frD (restR b day)])) []) : run tb.G pr (n + 9) "row_of" [b.d, .int day] Q := by
  rw [e_row_of]; unfold b_row_of
  have len := h.len
  have l1 := h.l1
  have e : b.d = .tuple [.tuple (b.ds.map .int), frD b.rate, .int b.m, .str b.word, .tuple (pL b.bs)] := rfl
  walk_at "S"
  refine flows_ok n b h _ ?_
  walk_at "S"
  refine lc_inv (fun i acc ρ => i ≤ b.bs.length ∧ acc = pL (rowP b day i) ∧ ∃ s6 s7, ρ = [.fz b.d, .fz (.int day), .un, .un, .un, .un, s6, s7]) ⟨by omega, rfl, _, _, rfl⟩ (fun i d acc ρ K hd hp' k1 => ?_) fun acc ρ hp' => ?_
  · obtain ⟨hi, rfl, s6, s7, rfl⟩ := hp'
    obtain ⟨hi, rfl⟩ := flD_get hd
    unfold flowD
    walk_at "S"
    by_cases c : day < b.ds.getD (i + 1) 0
    · rw [if_pos c]
      exact ⟨szl (by rw [pL_len]; have := rowP_len b day i; omega), k1 _ _ ⟨by omega, rowP_t c, _, _, rfl⟩⟩
    · rw [if_neg c]
      exact k1 _ _ ⟨by omega, by rw [rowP_f c], _, _, rfl⟩
  · obtain ⟨hi, rfl, s6, s7, rfl⟩ := hp'
    rw [flD_len]
    walk_at "S"
    refine period_ok (n + 7) b h day _ ?_
    unfold restR at q
    cases ep : perO b day with
    | none =>
      rw [ep] at q
      simp only [↓x_glb (show tb.G "ONE" = some (frD 1) from rfl), ↓TL.x_var, ↓TL.x_lit, ↓TL.x_glb, ↓TL.x_tup, ↓TL.x_lst, ↓TL.x_emp, ↓TL.x_rvs, ↓TL.x_met, ↓TL.x_dc1, ↓TL.x_dc2, ↓TL.x_bin, ↓TL.x_neg, ↓TL.x_nt, ↓TL.x_cmp, ↓TL.x_chn, ↓TL.x_and, ↓TL.x_or, ↓TL.x_ife, ↓TL.x_idx, ↓TL.x_slc, ↓TL.x_call, ↓TL.x_pcall, ↓TL.x_bl1, ↓TL.x_bl2, ↓TL.x_isi, ↓TL.x_pop, ↓TL.x_lc, ↓TL.x_lc2, ↓TL.x_nil, ↓TL.x_cons, ↓TL.x_no, ↓TL.x_so, ↓TL.x_tof, ↓TL.x_tand, ↓TL.x_tor, ↓TL.x_tnt, ↓TL.x_tite, ↓TL.x_ctno, ↓TL.x_ctso, ↓TL.x_iof, ↓TL.x_irng1, ↓TL.x_irng2, ↓TL.x_irng3, ↓TL.x_ienum, ↓TL.x_izip, ↓TL.x_irev, ↓TL.s_asg_, ↓TL.s_par_, ↓TL.s_sub_, ↓TL.s_aug_, ↓TL.s_swp_, ↓TL.s_augs_, ↓TL.s_subW, ↓TL.s_exp_, ↓TL.s_app_, ↓TL.s_ite_, ↓TL.s_for_, ↓TL.s_whl_, ↓TL.s_retN_, ↓TL.s_brk_, ↓TL.s_cnt_, ↓TL.s_pas_, ↓TL.ss_nil_, ↓TL.ss_cons_, ↓TL.o_dc1, ↓TL.s_ret_dc1, ↓TL.o_dc2, ↓TL.s_ret_dc2, ↓TL.o_emp, ↓TL.s_ret_emp, ↓TL.o_rvs, ↓TL.s_ret_rvs, ↓TL.o_met, ↓TL.s_ret_met, ↓TL.o_lit, ↓TL.s_ret_lit, ↓TL.o_glb, ↓TL.s_ret_glb, ↓TL.o_tup, ↓TL.s_ret_tup, ↓TL.o_lst, ↓TL.s_ret_lst, ↓TL.o_bin, ↓TL.s_ret_bin, ↓TL.o_neg, ↓TL.s_ret_neg, ↓TL.o_nt, ↓TL.s_ret_nt, ↓TL.o_cmp, ↓TL.s_ret_cmp, ↓TL.o_chn, ↓TL.s_ret_chn, ↓TL.o_and, ↓TL.s_ret_and, ↓TL.o_or, ↓TL.s_ret_or, ↓TL.o_ife, ↓TL.s_ret_ife, ↓TL.o_idx, ↓TL.s_ret_idx, ↓TL.o_slc, ↓TL.s_ret_slc, ↓TL.o_call, ↓TL.s_ret_call, ↓TL.o_pcall, ↓TL.s_ret_pcall, ↓TL.o_bl1, ↓TL.s_ret_bl1, ↓TL.o_bl2, ↓TL.s_ret_bl2, ↓TL.o_isi, ↓TL.s_ret_isi, ↓TL.o_pop, ↓TL.s_ret_pop, ↓TL.o_lc, ↓TL.s_ret_lc, ↓TL.o_lc2, ↓TL.s_ret_lc2, ↓TL.o_var_, ↓TL.s_retv_, ↓TL.l_val, ↓TL.l_slot, ↓TL.tg_fz, ↓TL.tg_own, ↓TL.tg_tup, ↓TL.tg_nil, ↓TL.tg_cons, ↓TL.wv_fz, ↓TL.wv_own, ↓TL.wv_s, ↓TL.lk_fz, ↓TL.lk_own, ↓TL.lk_bor, ↓TL.lk_s, ↓TL.cs_s, ↓TL.cs_un, ↓TL.cs_fz, ↓TL.cs_own, ↓TL.hd_own, ↓TL.hd_bor, ↓TL.hd_s, ↓TL.sh_own, ↓TL.sh_bor, ↓TL.sh_s, ↓TL.st_0, ↓TL.st_s, ↓TL.fr_nil, ↓TL.fr_cons, ↓TL.wp_nil, ↓TL.wp_cons, ↓TL.bk_nil, ↓TL.bk_cons, ↓TL.b_addI, ↓TL.b_subI, ↓TL.b_mulI, ↓TL.b_divI, ↓TL.b_modI, ↓TL.b_powI, ↓TL.b_addS, ↓TL.b_addT, ↓TL.b_addL, ↓TL.b_mulL, ↓TL.b_mulT, ↓TL.a_add, ↓TL.a_sub, ↓TL.a_mul, ↓TL.c_Eq_int, ↓TL.c_Eq_bool, ↓TL.c_Eq_str, ↓TL.c_Eq_tuple, ↓TL.c_Eq_list, ↓TL.c_NotEq_int, ↓TL.c_NotEq_bool, ↓TL.c_NotEq_str, ↓TL.c_NotEq_tuple, ↓TL.c_NotEq_list, ↓TL.c_Lt, ↓TL.c_LtE, ↓TL.c_Gt, ↓TL.c_GtE, ↓TL.c_LtE_b, ↓TL.c_Is_b, ↓TL.c_Is_n, ↓TL.c_IsNot_b, ↓TL.c_IsNot_n, ↓TL.c_In_tuple, ↓TL.c_In_list, ↓TL.c_NotIn_tuple, ↓TL.c_NotIn_list, ↓TL.t_non, ↓TL.t_bl, ↓TL.t_int, ↓TL.t_str, ↓TL.t_lst, ↓TL.t_tup, ↓TL.i_lst, ↓TL.i_tup, ↓TL.sl_lst, ↓TL.sl_tup, ↓TL.as_i, ↓TL.as_b, ↓TL.it_l, ↓TL.it_t, ↓TL.ls_l, ↓TL.zp_n, ↓TL.zp_f, ↓TL.zp_s, ↓TL.rv_l, ↓TL.rv_t, ↓TL.m_sw, ↓TL.m_ew, ↓TL.m_ix, ↓TL.m_ixd, ↓TL.tm_ixd, ↓TL.tm_sw, ↓TL.tm_ew, ↓TL.tm_ix, ↓TL.c_Lt_t, ↓TL.f_lenL, ↓TL.f_lenT, ↓TL.f_lenS, ↓TL.f_abs, ↓TL.f_min, ↓TL.f_max, ↓TL.f_sum, ↓TL.f_all, ↓TL.f_any, ↓TL.f_sort, ↓TL.f_ssetL, ↓TL.f_ssetT, ↓TL.f_trng, ↓TL.f_denL, ↓TL.f_denT, ↓TL.f_tupL, ↓TL.f_tupT, ↓TL.f_lstL, ↓TL.f_lstT, ↓TL.f_intI, ↓TL.f_intB, ↓TL.f_str, ↓TL.g_min, ↓TL.g_max, ↓TL.rd_fz, ↓TL.rd_own, ↓TL.rs_fz, ↓TL.rs_own, ↓TL.ou_b, ↓TL.at_l0, ↓TL.at_l1, ↓TL.at_l2, ↓TL.at_l3, ↓TL.at_l4, ↓TL.at_l5, ↓TL.at_l6, ↓TL.at_l7, ↓TL.ix_l0, ↓TL.ix_l1, ↓TL.ix_l2, ↓TL.ix_l3, ↓TL.ix_l4, ↓TL.ix_l5, ↓TL.ix_l6, ↓TL.ix_l7, ↓TL.ix_l8, ↓TL.ix_l9, ↓TL.ix_l10, ↓TL.ix_l11, ↓TL.ix_l12, TL.isStr, TL.flatD, TL.inD, TL.isiD, TL.tyD, TL.isNone, TL.eqv_int, TL.eqv_bool, TL.eqv_str, TL.sh_int, TL.sh_bool, TL.sz_le, TL.sz_lt, TL.Sl.held, List.map_cons, List.map_nil, List.cons_append, List.nil_append, List.append_nil, List.length_cons, List.length_nil, List.length_map, List.length_set, List.set_cons_zero, List.set_cons_succ, Nat.reduceLT, List.all_cons, List.all_nil, List.any_cons, List.any_nil, List.zip_cons_cons, List.zip_nil_left, List.zip_nil_right, List.foldl_cons, List.foldl_nil, List.getD_cons_zero, List.getD_cons_succ, List.mem_cons, List.not_mem_nil, forall_eq_or_imp, forall_eq, or_false, false_or, true_or, or_true, true_and, and_true, false_and, and_false, false_implies, implies_true, forall_const, ↓reduceIte, if_true, if_false, Bool.false_eq_true, Bool.true_and, Bool.and_true, Bool.false_and, Bool.and_false, Bool.or_false, Bool.false_or, Bool.or_true, Bool.true_or, Bool.not_true, Bool.not_false, Bool.and_eq_true, Bool.or_eq_true, Bool.not_eq_true', decide_eq_true_eq, decide_eq_false_iff_not, ne_eq, not_false_eq_true, not_true_eq_false, reduceCtorEq, decide_true, decide_false, Nat.reduceAdd, Nat.reduceLeDiff, Nat.reduceEqDiff, TL.all_isInt, TL.map_intOf, TL.all_isBool, TL.map_boolOf, TL.take_ints, TL.drop_ints, List.take_succ_cons, List.take_zero, List.drop_succ_cons, List.drop_zero, List.take_nil, List.drop_nil, TL.fmod_n, TL.fdiv_n, TL.cut_to, TL.cut_from, TL.cut_mid, Int.reduceEq, Int.reduceNe, Int.reduceNeg, Int.reduceAdd, Int.reduceMul, Int.reduceSub, Int.reduceLT, Int.reduceLE, Int.reduceGT, Int.reduceGE, Int.reducePow, Int.reduceToNat, Int.add_zero, Int.zero_add, String.reduceEq, String.reduceBEq]
      exact q
    | some k =>
      rw [ep] at q
      obtain ⟨hk, d0, d1, hd⟩ := per_in h ep
      rw [e]
      simp only [at_i (show k < b.ds.length by omega), at_i1 (show k + 1 < b.ds.length by omega), ↓TL.x_var, ↓TL.x_lit, ↓TL.x_glb, ↓TL.x_tup, ↓TL.x_lst, ↓TL.x_emp, ↓TL.x_rvs, ↓TL.x_met, ↓TL.x_dc1, ↓TL.x_dc2, ↓TL.x_bin, ↓TL.x_neg, ↓TL.x_nt, ↓TL.x_cmp, ↓TL.x_chn, ↓TL.x_and, ↓TL.x_or, ↓TL.x_ife, ↓TL.x_idx, ↓TL.x_slc, ↓TL.x_call, ↓TL.x_pcall, ↓TL.x_bl1, ↓TL.x_bl2, ↓TL.x_isi, ↓TL.x_pop, ↓TL.x_lc, ↓TL.x_lc2, ↓TL.x_nil, ↓TL.x_cons, ↓TL.x_no, ↓TL.x_so, ↓TL.x_tof, ↓TL.x_tand, ↓TL.x_tor, ↓TL.x_tnt, ↓TL.x_tite, ↓TL.x_ctno, ↓TL.x_ctso, ↓TL.x_iof, ↓TL.x_irng1, ↓TL.x_irng2, ↓TL.x_irng3, ↓TL.x_ienum, ↓TL.x_izip, ↓TL.x_irev, ↓TL.s_asg_, ↓TL.s_par_, ↓TL.s_sub_, ↓TL.s_aug_, ↓TL.s_swp_, ↓TL.s_augs_, ↓TL.s_subW, ↓TL.s_exp_, ↓TL.s_app_, ↓TL.s_ite_, ↓TL.s_for_, ↓TL.s_whl_, ↓TL.s_retN_, ↓TL.s_brk_, ↓TL.s_cnt_, ↓TL.s_pas_, ↓TL.ss_nil_, ↓TL.ss_cons_, ↓TL.o_dc1, ↓TL.s_ret_dc1, ↓TL.o_dc2, ↓TL.s_ret_dc2, ↓TL.o_emp, ↓TL.s_ret_emp, ↓TL.o_rvs, ↓TL.s_ret_rvs, ↓TL.o_met, ↓TL.s_ret_met, ↓TL.o_lit, ↓TL.s_ret_lit, ↓TL.o_glb, ↓TL.s_ret_glb, ↓TL.o_tup, ↓TL.s_ret_tup, ↓TL.o_lst, ↓TL.s_ret_lst, ↓TL.o_bin, ↓TL.s_ret_bin, ↓TL.o_neg, ↓TL.s_ret_neg, ↓TL.o_nt, ↓TL.s_ret_nt, ↓TL.o_cmp, ↓TL.s_ret_cmp, ↓TL.o_chn, ↓TL.s_ret_chn, ↓TL.o_and, ↓TL.s_ret_and, ↓TL.o_or, ↓TL.s_ret_or, ↓TL.o_ife, ↓TL.s_ret_ife, ↓TL.o_idx, ↓TL.s_ret_idx, ↓TL.o_slc, ↓TL.s_ret_slc, ↓TL.o_call, ↓TL.s_ret_call, ↓TL.o_pcall, ↓TL.s_ret_pcall, ↓TL.o_bl1, ↓TL.s_ret_bl1, ↓TL.o_bl2, ↓TL.s_ret_bl2, ↓TL.o_isi, ↓TL.s_ret_isi, ↓TL.o_pop, ↓TL.s_ret_pop, ↓TL.o_lc, ↓TL.s_ret_lc, ↓TL.o_lc2, ↓TL.s_ret_lc2, ↓TL.o_var_, ↓TL.s_retv_, ↓TL.l_val, ↓TL.l_slot, ↓TL.tg_fz, ↓TL.tg_own, ↓TL.tg_tup, ↓TL.tg_nil, ↓TL.tg_cons, ↓TL.wv_fz, ↓TL.wv_own, ↓TL.wv_s, ↓TL.lk_fz, ↓TL.lk_own, ↓TL.lk_bor, ↓TL.lk_s, ↓TL.cs_s, ↓TL.cs_un, ↓TL.cs_fz, ↓TL.cs_own, ↓TL.hd_own, ↓TL.hd_bor, ↓TL.hd_s, ↓TL.sh_own, ↓TL.sh_bor, ↓TL.sh_s, ↓TL.st_0, ↓TL.st_s, ↓TL.fr_nil, ↓TL.fr_cons, ↓TL.wp_nil, ↓TL.wp_cons, ↓TL.bk_nil, ↓TL.bk_cons, ↓TL.b_addI, ↓TL.b_subI, ↓TL.b_mulI, ↓TL.b_divI, ↓TL.b_modI, ↓TL.b_powI, ↓TL.b_addS, ↓TL.b_addT, ↓TL.b_addL, ↓TL.b_mulL, ↓TL.b_mulT, ↓TL.a_add, ↓TL.a_sub, ↓TL.a_mul, ↓TL.c_Eq_int, ↓TL.c_Eq_bool, ↓TL.c_Eq_str, ↓TL.c_Eq_tuple, ↓TL.c_Eq_list, ↓TL.c_NotEq_int, ↓TL.c_NotEq_bool, ↓TL.c_NotEq_str, ↓TL.c_NotEq_tuple, ↓TL.c_NotEq_list, ↓TL.c_Lt, ↓TL.c_LtE, ↓TL.c_Gt, ↓TL.c_GtE, ↓TL.c_LtE_b, ↓TL.c_Is_b, ↓TL.c_Is_n, ↓TL.c_IsNot_b, ↓TL.c_IsNot_n, ↓TL.c_In_tuple, ↓TL.c_In_list, ↓TL.c_NotIn_tuple, ↓TL.c_NotIn_list, ↓TL.t_non, ↓TL.t_bl, ↓TL.t_int, ↓TL.t_str, ↓TL.t_lst, ↓TL.t_tup, ↓TL.i_lst, ↓TL.i_tup, ↓TL.sl_lst, ↓TL.sl_tup, ↓TL.as_i, ↓TL.as_b, ↓TL.it_l, ↓TL.it_t, ↓TL.ls_l, ↓TL.zp_n, ↓TL.zp_f, ↓TL.zp_s, ↓TL.rv_l, ↓TL.rv_t, ↓TL.m_sw, ↓TL.m_ew, ↓TL.m_ix, ↓TL.m_ixd, ↓TL.tm_ixd, ↓TL.tm_sw, ↓TL.tm_ew, ↓TL.tm_ix, ↓TL.c_Lt_t, ↓TL.f_lenL, ↓TL.f_lenT, ↓TL.f_lenS, ↓TL.f_abs, ↓TL.f_min, ↓TL.f_max, ↓TL.f_sum, ↓TL.f_all, ↓TL.f_any, ↓TL.f_sort, ↓TL.f_ssetL, ↓TL.f_ssetT, ↓TL.f_trng, ↓TL.f_denL, ↓TL.f_denT, ↓TL.f_tupL, ↓TL.f_tupT, ↓TL.f_lstL, ↓TL.f_lstT, ↓TL.f_intI, ↓TL.f_intB, ↓TL.f_str, ↓TL.g_min, ↓TL.g_max, ↓TL.rd_fz, ↓TL.rd_own, ↓TL.rs_fz, ↓TL.rs_own, ↓TL.ou_b, ↓TL.at_l0, ↓TL.at_l1, ↓TL.at_l2, ↓TL.at_l3, ↓TL.at_l4, ↓TL.at_l5, ↓TL.at_l6, ↓TL.at_l7, ↓TL.ix_l0, ↓TL.ix_l1, ↓TL.ix_l2, ↓TL.ix_l3, ↓TL.ix_l4, ↓TL.ix_l5, ↓TL.ix_l6, ↓TL.ix_l7, ↓TL.ix_l8, ↓TL.ix_l9, ↓TL.ix_l10, ↓TL.ix_l11, ↓TL.ix_l12, TL.isStr, TL.flatD, TL.inD, TL.isiD, TL.tyD, TL.isNone, TL.eqv_int, TL.eqv_bool, TL.eqv_str, TL.sh_int, TL.sh_bool, TL.sz_le, TL.sz_lt, TL.Sl.held, List.map_cons, List.map_nil, List.cons_append, List.nil_append, List.append_nil, List.length_cons, List.length_nil, List.length_map, List.length_set, List.set_cons_zero, List.set_cons_succ, Nat.reduceLT, List.all_cons, List.all_nil, List.any_cons, List.any_nil, List.zip_cons_cons, List.zip_nil_left, List.zip_nil_right, List.foldl_cons, List.foldl_nil, List.getD_cons_zero, List.getD_cons_succ, List.mem_cons, List.not_mem_nil, forall_eq_or_imp, forall_eq, or_false, false_or, true_or, or_true, true_and, and_true, false_and, and_false, false_implies, implies_true, forall_const, ↓reduceIte, if_true, if_false, Bool.false_eq_true, Bool.true_and, Bool.and_true, Bool.false_and, Bool.and_false, Bool.or_false, Bool.false_or, Bool.or_true, Bool.true_or, Bool.not_true, Bool.not_false, Bool.and_eq_true, Bool.or_eq_true, Bool.not_eq_true', decide_eq_true_eq, decide_eq_false_iff_not, ne_eq, not_false_eq_true, not_true_eq_false, reduceCtorEq, decide_true, decide_false, Nat.reduceAdd, Nat.reduceLeDiff, Nat.reduceEqDiff, TL.all_isInt, TL.map_intOf, TL.all_isBool, TL.map_boolOf, TL.take_ints, TL.drop_ints, List.take_succ_cons, List.take_zero, List.drop_succ_cons, List.drop_zero, List.take_nil, List.drop_nil, TL.fmod_n, TL.fdiv_n, TL.cut_to, TL.cut_from, TL.cut_mid, Int.reduceEq, Int.reduceNe, Int.reduceNeg, Int.reduceAdd, Int.reduceMul, Int.reduceSub, Int.reduceLT, Int.reduceLE, Int.reduceGT, Int.reduceGE, Int.reducePow, Int.reduceToNat, Int.add_zero, Int.zero_add, String.reduceEq, String.reduceBEq]
      have i0 := h.inD k (by omega)
      have i1 := h.inD (k + 1) (by omega)
      have u := (h.up k (by omega)).1
      refine fraction_ok (n + 6) (k := 18) _ _ (szD i1 hd) (szD i1 i0) (by decide) (by omega) _ ?_
      walk_at "S"
      exact q
theorem per_first {b : Bond} (h : b.Ok) {day : Int} (hd : day < b.ds.getD 0 0) : perO b day = none := by
  cases e : perO b day with
  | none => rfl
  | some k =>
    obtain ⟨hk, d0, _, _⟩ := per_in h e
    have := h.le 0 k (by omega) (by rw [h.len]; omega)
    omega
theorem per_some {b : Bond} (h : b.Ok) {day : Int} (h0 : b.ds.getD 0 0 ≤ day) (h1 : day < b.ds.getD b.bs.length 0) : ∃ k, perO b day = some k := by
  cases e : perO b day with
  | some k => exact ⟨k, rfl⟩
  | none =>
    have no := perF_none e
    have : ∀ j, j ≤ b.bs.length → b.ds.getD j 0 ≤ day := by
      intro j
      induction j with
      | zero => intro _; exact h0
      | succ j ih =>
        intro hj
        have a := ih (by omega)
        have c := of_decide_eq_false (no j (by omega))
        rcases Int.lt_or_le day (b.ds.getD (j + 1) 0) with z | z
        · exact absurd ⟨a, z⟩ c
        · exact z
    have := this b.bs.length (Nat.le_refl _)
    omega
theorem law_row_of_ok (n : Nat) (b : Bond) (h : b.Ok) (day : Int) (hl : day < b.ds.getD b.bs.length 0) (Q : RV → List D → Prop) (q : Q (.fz (.tuple [pT (rowR b day), frD (restR b day)])) []) : run tb.G pr (n + 9) "_law_row_of" [b.d, .int day] Q := by
  rw [e_law_row_of]; unfold b_law_row_of
  have len := h.len
  have l0 := h.l0
  have l1 := h.l1
  have e : b.d = .tuple [.tuple (b.ds.map .int), frD b.rate, .int b.m, .str b.word, .tuple (pL b.bs)] := rfl
  rw [e]
  walk_at "S"
  rw [← e]
  refine law_flows_ok (n + 1) b h _ ?_
  walk_at "S"
  refine lc_inv (fun i acc ρ => i ≤ b.bs.length ∧ acc = pL (rowP b day i) ∧ ∃ s7 s8, ρ = [.fz b.d, .fz (.int day), .un, .un, .fz (.tuple (b.ds.map .int)), .fz (.tuple (flD b)), .un, s7, s8]) ⟨by omega, rfl, _, _, rfl⟩ (fun i d acc ρ K hd hp' k1 => ?_) fun acc ρ hp' => ?_
  · obtain ⟨hi, rfl, s6, s7, rfl⟩ := hp'
    obtain ⟨hi, rfl⟩ := flD_get hd
    unfold flowD
    walk_at "S"
    by_cases c : day < b.ds.getD (i + 1) 0
    · rw [if_pos c]
      exact ⟨szl (by rw [pL_len]; have := rowP_len b day i; omega), k1 _ _ ⟨by omega, rowP_t c, _, _, rfl⟩⟩
    · rw [if_neg c]
      exact k1 _ _ ⟨by omega, by rw [rowP_f c], _, _, rfl⟩
  · obtain ⟨hi, rfl, s6, s7, rfl⟩ := hp'
    rw [flD_len]
    simp only [at_ints (show (0:Int) ≤ 0 by decide) (show (0 : Int) < b.ds.length by omega), ↓TL.x_var, ↓TL.x_lit, ↓TL.x_glb, ↓TL.x_tup, ↓TL.x_lst, ↓TL.x_emp, ↓TL.x_rvs, ↓TL.x_met, ↓TL.x_dc1, ↓TL.x_dc2, ↓TL.x_bin, ↓TL.x_neg, ↓TL.x_nt, ↓TL.x_cmp, ↓TL.x_chn, ↓TL.x_and, ↓TL.x_or, ↓TL.x_ife, ↓TL.x_idx, ↓TL.x_slc, ↓TL.x_call, ↓TL.x_pcall, ↓TL.x_bl1, ↓TL.x_bl2, ↓TL.x_isi, ↓TL.x_pop, ↓TL.x_lc, ↓TL.x_lc2, ↓TL.x_nil, ↓TL.x_cons, ↓TL.x_no, ↓TL.x_so, ↓TL.x_tof, ↓TL.x_tand, ↓TL.x_tor, ↓TL.x_tnt, ↓TL.x_tite, ↓TL.x_ctno, ↓TL.x_ctso, ↓TL.x_iof, ↓TL.x_irng1, ↓TL.x_irng2, ↓TL.x_irng3, ↓TL.x_ienum, ↓TL.x_izip, ↓TL.x_irev, ↓TL.s_asg_, ↓TL.s_par_, ↓TL.s_sub_, ↓TL.s_aug_, ↓TL.s_swp_, ↓TL.s_augs_, ↓TL.s_subW, ↓TL.s_exp_, ↓TL.s_app_, ↓TL.s_ite_, ↓TL.s_for_, ↓TL.s_whl_, ↓TL.s_retN_, ↓TL.s_brk_, ↓TL.s_cnt_, ↓TL.s_pas_, ↓TL.ss_nil_, ↓TL.ss_cons_, ↓TL.o_dc1, ↓TL.s_ret_dc1, ↓TL.o_dc2, ↓TL.s_ret_dc2, ↓TL.o_emp, ↓TL.s_ret_emp, ↓TL.o_rvs, ↓TL.s_ret_rvs, ↓TL.o_met, ↓TL.s_ret_met, ↓TL.o_lit, ↓TL.s_ret_lit, ↓TL.o_glb, ↓TL.s_ret_glb, ↓TL.o_tup, ↓TL.s_ret_tup, ↓TL.o_lst, ↓TL.s_ret_lst, ↓TL.o_bin, ↓TL.s_ret_bin, ↓TL.o_neg, ↓TL.s_ret_neg, ↓TL.o_nt, ↓TL.s_ret_nt, ↓TL.o_cmp, ↓TL.s_ret_cmp, ↓TL.o_chn, ↓TL.s_ret_chn, ↓TL.o_and, ↓TL.s_ret_and, ↓TL.o_or, ↓TL.s_ret_or, ↓TL.o_ife, ↓TL.s_ret_ife, ↓TL.o_idx, ↓TL.s_ret_idx, ↓TL.o_slc, ↓TL.s_ret_slc, ↓TL.o_call, ↓TL.s_ret_call, ↓TL.o_pcall, ↓TL.s_ret_pcall, ↓TL.o_bl1, ↓TL.s_ret_bl1, ↓TL.o_bl2, ↓TL.s_ret_bl2, ↓TL.o_isi, ↓TL.s_ret_isi, ↓TL.o_pop, ↓TL.s_ret_pop, ↓TL.o_lc, ↓TL.s_ret_lc, ↓TL.o_lc2, ↓TL.s_ret_lc2, ↓TL.o_var_, ↓TL.s_retv_, ↓TL.l_val, ↓TL.l_slot, ↓TL.tg_fz, ↓TL.tg_own, ↓TL.tg_tup, ↓TL.tg_nil, ↓TL.tg_cons, ↓TL.wv_fz, ↓TL.wv_own, ↓TL.wv_s, ↓TL.lk_fz, ↓TL.lk_own, ↓TL.lk_bor, ↓TL.lk_s, ↓TL.cs_s, ↓TL.cs_un, ↓TL.cs_fz, ↓TL.cs_own, ↓TL.hd_own, ↓TL.hd_bor, ↓TL.hd_s, ↓TL.sh_own, ↓TL.sh_bor, ↓TL.sh_s, ↓TL.st_0, ↓TL.st_s, ↓TL.fr_nil, ↓TL.fr_cons, ↓TL.wp_nil, ↓TL.wp_cons, ↓TL.bk_nil, ↓TL.bk_cons, ↓TL.b_addI, ↓TL.b_subI, ↓TL.b_mulI, ↓TL.b_divI, ↓TL.b_modI, ↓TL.b_powI, ↓TL.b_addS, ↓TL.b_addT, ↓TL.b_addL, ↓TL.b_mulL, ↓TL.b_mulT, ↓TL.a_add, ↓TL.a_sub, ↓TL.a_mul, ↓TL.c_Eq_int, ↓TL.c_Eq_bool, ↓TL.c_Eq_str, ↓TL.c_Eq_tuple, ↓TL.c_Eq_list, ↓TL.c_NotEq_int, ↓TL.c_NotEq_bool, ↓TL.c_NotEq_str, ↓TL.c_NotEq_tuple, ↓TL.c_NotEq_list, ↓TL.c_Lt, ↓TL.c_LtE, ↓TL.c_Gt, ↓TL.c_GtE, ↓TL.c_LtE_b, ↓TL.c_Is_b, ↓TL.c_Is_n, ↓TL.c_IsNot_b, ↓TL.c_IsNot_n, ↓TL.c_In_tuple, ↓TL.c_In_list, ↓TL.c_NotIn_tuple, ↓TL.c_NotIn_list, ↓TL.t_non, ↓TL.t_bl, ↓TL.t_int, ↓TL.t_str, ↓TL.t_lst, ↓TL.t_tup, ↓TL.i_lst, ↓TL.i_tup, ↓TL.sl_lst, ↓TL.sl_tup, ↓TL.as_i, ↓TL.as_b, ↓TL.it_l, ↓TL.it_t, ↓TL.ls_l, ↓TL.zp_n, ↓TL.zp_f, ↓TL.zp_s, ↓TL.rv_l, ↓TL.rv_t, ↓TL.m_sw, ↓TL.m_ew, ↓TL.m_ix, ↓TL.m_ixd, ↓TL.tm_ixd, ↓TL.tm_sw, ↓TL.tm_ew, ↓TL.tm_ix, ↓TL.c_Lt_t, ↓TL.f_lenL, ↓TL.f_lenT, ↓TL.f_lenS, ↓TL.f_abs, ↓TL.f_min, ↓TL.f_max, ↓TL.f_sum, ↓TL.f_all, ↓TL.f_any, ↓TL.f_sort, ↓TL.f_ssetL, ↓TL.f_ssetT, ↓TL.f_trng, ↓TL.f_denL, ↓TL.f_denT, ↓TL.f_tupL, ↓TL.f_tupT, ↓TL.f_lstL, ↓TL.f_lstT, ↓TL.f_intI, ↓TL.f_intB, ↓TL.f_str, ↓TL.g_min, ↓TL.g_max, ↓TL.rd_fz, ↓TL.rd_own, ↓TL.rs_fz, ↓TL.rs_own, ↓TL.ou_b, ↓TL.at_l0, ↓TL.at_l1, ↓TL.at_l2, ↓TL.at_l3, ↓TL.at_l4, ↓TL.at_l5, ↓TL.at_l6, ↓TL.at_l7, ↓TL.ix_l0, ↓TL.ix_l1, ↓TL.ix_l2, ↓TL.ix_l3, ↓TL.ix_l4, ↓TL.ix_l5, ↓TL.ix_l6, ↓TL.ix_l7, ↓TL.ix_l8, ↓TL.ix_l9, ↓TL.ix_l10, ↓TL.ix_l11, ↓TL.ix_l12, TL.isStr, TL.flatD, TL.inD, TL.isiD, TL.tyD, TL.isNone, TL.eqv_int, TL.eqv_bool, TL.eqv_str, TL.sh_int, TL.sh_bool, TL.sz_le, TL.sz_lt, TL.Sl.held, List.map_cons, List.map_nil, List.cons_append, List.nil_append, List.append_nil, List.length_cons, List.length_nil, List.length_map, List.length_set, List.set_cons_zero, List.set_cons_succ, Nat.reduceLT, List.all_cons, List.all_nil, List.any_cons, List.any_nil, List.zip_cons_cons, List.zip_nil_left, List.zip_nil_right, List.foldl_cons, List.foldl_nil, List.getD_cons_zero, List.getD_cons_succ, List.mem_cons, List.not_mem_nil, forall_eq_or_imp, forall_eq, or_false, false_or, true_or, or_true, true_and, and_true, false_and, and_false, false_implies, implies_true, forall_const, ↓reduceIte, if_true, if_false, Bool.false_eq_true, Bool.true_and, Bool.and_true, Bool.false_and, Bool.and_false, Bool.or_false, Bool.false_or, Bool.or_true, Bool.true_or, Bool.not_true, Bool.not_false, Bool.and_eq_true, Bool.or_eq_true, Bool.not_eq_true', decide_eq_true_eq, decide_eq_false_iff_not, ne_eq, not_false_eq_true, not_true_eq_false, reduceCtorEq, decide_true, decide_false, Nat.reduceAdd, Nat.reduceLeDiff, Nat.reduceEqDiff, TL.all_isInt, TL.map_intOf, TL.all_isBool, TL.map_boolOf, TL.take_ints, TL.drop_ints, List.take_succ_cons, List.take_zero, List.drop_succ_cons, List.drop_zero, List.take_nil, List.drop_nil, TL.fmod_n, TL.fdiv_n, TL.cut_to, TL.cut_from, TL.cut_mid, Int.reduceEq, Int.reduceNe, Int.reduceNeg, Int.reduceAdd, Int.reduceMul, Int.reduceSub, Int.reduceLT, Int.reduceLE, Int.reduceGT, Int.reduceGE, Int.reducePow, Int.reduceToNat, Int.add_zero, Int.zero_add, String.reduceEq, String.reduceBEq]
    have e0 : b.ds.getD (Int.toNat 0) 0 = b.ds.getD 0 0 := rfl
    unfold restR at q
    by_cases c : day < b.ds.getD 0 0
    · rw [if_pos c]
      rw [per_first h c] at q
      exact q
    · rw [if_neg c]
      obtain ⟨k, ep⟩ := per_some h (by omega) hl
      rw [ep] at q
      obtain ⟨hk, d0, d1, hd⟩ := per_in h ep
      refine lc_inv (fun i acc ρ => i ≤ b.ds.length ∧ acc.length = (if i ≤ k + 1 then i else k + 1) ∧ ∃ s6, ρ = [.fz b.d, .fz (.int day), .fz (.tuple (pL (rowP b day b.bs.length))), .un, .fz (.tuple (b.ds.map .int)), .fz (.tuple (flD b)), s6, .un, .un]) ⟨by omega, rfl, _, rfl⟩ (fun i d acc ρ K hd' hp' k1 => ?_) fun acc ρ hp' => ?_
      · obtain ⟨hi, hacc, s6, rfl⟩ := hp'
        have hi := (List.getElem?_eq_some_iff.mp hd').1
        rw [List.length_map] at hi
        have ed : d = .int (b.ds.getD i 0) := by
          rw [List.getElem?_map, List.getElem?_eq_getElem hi] at hd'
          cases hd'
          rw [List.getD_eq_getElem?_getD, List.getElem?_eq_getElem hi]; rfl
        subst ed
        walk_at "S"
        by_cases c2 : b.ds.getD i 0 ≤ day
        · have ik : i ≤ k := by
            rcases Nat.lt_or_ge k i with z | z
            · have := h.le (k + 1) i (by omega) hi; omega
            · exact z
          rw [if_pos (by simpa using c2)]
          rw [if_pos (by omega)] at hacc
          exact ⟨szl (by omega), k1 _ _ ⟨by omega, by rw [List.length_append, hacc, if_pos (by omega)]; rfl, _, rfl⟩⟩
        · have ik : k < i := by
            rcases Nat.lt_or_ge k i with z | z
            · exact z
            · have := h.le i k z (by omega); omega
          rw [if_neg (by simpa using c2)]
          refine k1 _ _ ⟨by omega, ?_, _, rfl⟩
          rw [hacc, if_neg (show ¬(i + 1 ≤ k + 1) by omega)]
          split <;> omega
      · obtain ⟨hi, hacc, s6, rfl⟩ := hp'
        rw [List.length_map] at hacc
        have hacc : acc.length = k + 1 := by rw [hacc]; split <;> omega
        have i0 := h.inD k (by omega)
        have i1 := h.inD (k + 1) (by omega)
        have u := (h.up k (by omega)).1
        simp only [hacc, ↓TL.x_var, ↓TL.x_lit, ↓TL.x_glb, ↓TL.x_tup, ↓TL.x_lst, ↓TL.x_emp, ↓TL.x_rvs, ↓TL.x_met, ↓TL.x_dc1, ↓TL.x_dc2, ↓TL.x_bin, ↓TL.x_neg, ↓TL.x_nt, ↓TL.x_cmp, ↓TL.x_chn, ↓TL.x_and, ↓TL.x_or, ↓TL.x_ife, ↓TL.x_idx, ↓TL.x_slc, ↓TL.x_call, ↓TL.x_pcall, ↓TL.x_bl1, ↓TL.x_bl2, ↓TL.x_isi, ↓TL.x_pop, ↓TL.x_lc, ↓TL.x_lc2, ↓TL.x_nil, ↓TL.x_cons, ↓TL.x_no, ↓TL.x_so, ↓TL.x_tof, ↓TL.x_tand, ↓TL.x_tor, ↓TL.x_tnt, ↓TL.x_tite, ↓TL.x_ctno, ↓TL.x_ctso, ↓TL.x_iof, ↓TL.x_irng1, ↓TL.x_irng2, ↓TL.x_irng3, ↓TL.x_ienum, ↓TL.x_izip, ↓TL.x_irev, ↓TL.s_asg_, ↓TL.s_par_, ↓TL.s_sub_, ↓TL.s_aug_, ↓TL.s_swp_, ↓TL.s_augs_, ↓TL.s_subW, ↓TL.s_exp_, ↓TL.s_app_, ↓TL.s_ite_, ↓TL.s_for_, ↓TL.s_whl_, ↓TL.s_retN_, ↓TL.s_brk_, ↓TL.s_cnt_, ↓TL.s_pas_, ↓TL.ss_nil_, ↓TL.ss_cons_, ↓TL.o_dc1, ↓TL.s_ret_dc1, ↓TL.o_dc2, ↓TL.s_ret_dc2, ↓TL.o_emp, ↓TL.s_ret_emp, ↓TL.o_rvs, ↓TL.s_ret_rvs, ↓TL.o_met, ↓TL.s_ret_met, ↓TL.o_lit, ↓TL.s_ret_lit, ↓TL.o_glb, ↓TL.s_ret_glb, ↓TL.o_tup, ↓TL.s_ret_tup, ↓TL.o_lst, ↓TL.s_ret_lst, ↓TL.o_bin, ↓TL.s_ret_bin, ↓TL.o_neg, ↓TL.s_ret_neg, ↓TL.o_nt, ↓TL.s_ret_nt, ↓TL.o_cmp, ↓TL.s_ret_cmp, ↓TL.o_chn, ↓TL.s_ret_chn, ↓TL.o_and, ↓TL.s_ret_and, ↓TL.o_or, ↓TL.s_ret_or, ↓TL.o_ife, ↓TL.s_ret_ife, ↓TL.o_idx, ↓TL.s_ret_idx, ↓TL.o_slc, ↓TL.s_ret_slc, ↓TL.o_call, ↓TL.s_ret_call, ↓TL.o_pcall, ↓TL.s_ret_pcall, ↓TL.o_bl1, ↓TL.s_ret_bl1, ↓TL.o_bl2, ↓TL.s_ret_bl2, ↓TL.o_isi, ↓TL.s_ret_isi, ↓TL.o_pop, ↓TL.s_ret_pop, ↓TL.o_lc, ↓TL.s_ret_lc, ↓TL.o_lc2, ↓TL.s_ret_lc2, ↓TL.o_var_, ↓TL.s_retv_, ↓TL.l_val, ↓TL.l_slot, ↓TL.tg_fz, ↓TL.tg_own, ↓TL.tg_tup, ↓TL.tg_nil, ↓TL.tg_cons, ↓TL.wv_fz, ↓TL.wv_own, ↓TL.wv_s, ↓TL.lk_fz, ↓TL.lk_own, ↓TL.lk_bor, ↓TL.lk_s, ↓TL.cs_s, ↓TL.cs_un, ↓TL.cs_fz, ↓TL.cs_own, ↓TL.hd_own, ↓TL.hd_bor, ↓TL.hd_s, ↓TL.sh_own, ↓TL.sh_bor, ↓TL.sh_s, ↓TL.st_0, ↓TL.st_s, ↓TL.fr_nil, ↓TL.fr_cons, ↓TL.wp_nil, ↓TL.wp_cons, ↓TL.bk_nil, ↓TL.bk_cons, ↓TL.b_addI, ↓TL.b_subI, ↓TL.b_mulI, ↓TL.b_divI, ↓TL.b_modI, ↓TL.b_powI, ↓TL.b_addS, ↓TL.b_addT, ↓TL.b_addL, ↓TL.b_mulL, ↓TL.b_mulT, ↓TL.a_add, ↓TL.a_sub, ↓TL.a_mul, ↓TL.c_Eq_int, ↓TL.c_Eq_bool, ↓TL.c_Eq_str, ↓TL.c_Eq_tuple, ↓TL.c_Eq_list, ↓TL.c_NotEq_int, ↓TL.c_NotEq_bool, ↓TL.c_NotEq_str, ↓TL.c_NotEq_tuple, ↓TL.c_NotEq_list, ↓TL.c_Lt, ↓TL.c_LtE, ↓TL.c_Gt, ↓TL.c_GtE, ↓TL.c_LtE_b, ↓TL.c_Is_b, ↓TL.c_Is_n, ↓TL.c_IsNot_b, ↓TL.c_IsNot_n, ↓TL.c_In_tuple, ↓TL.c_In_list, ↓TL.c_NotIn_tuple, ↓TL.c_NotIn_list, ↓TL.t_non, ↓TL.t_bl, ↓TL.t_int, ↓TL.t_str, ↓TL.t_lst, ↓TL.t_tup, ↓TL.i_lst, ↓TL.i_tup, ↓TL.sl_lst, ↓TL.sl_tup, ↓TL.as_i, ↓TL.as_b, ↓TL.it_l, ↓TL.it_t, ↓TL.ls_l, ↓TL.zp_n, ↓TL.zp_f, ↓TL.zp_s, ↓TL.rv_l, ↓TL.rv_t, ↓TL.m_sw, ↓TL.m_ew, ↓TL.m_ix, ↓TL.m_ixd, ↓TL.tm_ixd, ↓TL.tm_sw, ↓TL.tm_ew, ↓TL.tm_ix, ↓TL.c_Lt_t, ↓TL.f_lenL, ↓TL.f_lenT, ↓TL.f_lenS, ↓TL.f_abs, ↓TL.f_min, ↓TL.f_max, ↓TL.f_sum, ↓TL.f_all, ↓TL.f_any, ↓TL.f_sort, ↓TL.f_ssetL, ↓TL.f_ssetT, ↓TL.f_trng, ↓TL.f_denL, ↓TL.f_denT, ↓TL.f_tupL, ↓TL.f_tupT, ↓TL.f_lstL, ↓TL.f_lstT, ↓TL.f_intI, ↓TL.f_intB, ↓TL.f_str, ↓TL.g_min, ↓TL.g_max, ↓TL.rd_fz, ↓TL.rd_own, ↓TL.rs_fz, ↓TL.rs_own, ↓TL.ou_b, ↓TL.at_l0, ↓TL.at_l1, ↓TL.at_l2, ↓TL.at_l3, ↓TL.at_l4, ↓TL.at_l5, ↓TL.at_l6, ↓TL.at_l7, ↓TL.ix_l0, ↓TL.ix_l1, ↓TL.ix_l2, ↓TL.ix_l3, ↓TL.ix_l4, ↓TL.ix_l5, ↓TL.ix_l6, ↓TL.ix_l7, ↓TL.ix_l8, ↓TL.ix_l9, ↓TL.ix_l10, ↓TL.ix_l11, ↓TL.ix_l12, TL.isStr, TL.flatD, TL.inD, TL.isiD, TL.tyD, TL.isNone, TL.eqv_int, TL.eqv_bool, TL.eqv_str, TL.sh_int, TL.sh_bool, TL.sz_le, TL.sz_lt, TL.Sl.held, List.map_cons, List.map_nil, List.cons_append, List.nil_append, List.append_nil, List.length_cons, List.length_nil, List.length_map, List.length_set, List.set_cons_zero, List.set_cons_succ, Nat.reduceLT, List.all_cons, List.all_nil, List.any_cons, List.any_nil, List.zip_cons_cons, List.zip_nil_left, List.zip_nil_right, List.foldl_cons, List.foldl_nil, List.getD_cons_zero, List.getD_cons_succ, List.mem_cons, List.not_mem_nil, forall_eq_or_imp, forall_eq, or_false, false_or, true_or, or_true, true_and, and_true, false_and, and_false, false_implies, implies_true, forall_const, ↓reduceIte, if_true, if_false, Bool.false_eq_true, Bool.true_and, Bool.and_true, Bool.false_and, Bool.and_false, Bool.or_false, Bool.false_or, Bool.or_true, Bool.true_or, Bool.not_true, Bool.not_false, Bool.and_eq_true, Bool.or_eq_true, Bool.not_eq_true', decide_eq_true_eq, decide_eq_false_iff_not, ne_eq, not_false_eq_true, not_true_eq_false, reduceCtorEq, decide_true, decide_false, Nat.reduceAdd, Nat.reduceLeDiff, Nat.reduceEqDiff, TL.all_isInt, TL.map_intOf, TL.all_isBool, TL.map_boolOf, TL.take_ints, TL.drop_ints, List.take_succ_cons, List.take_zero, List.drop_succ_cons, List.drop_zero, List.take_nil, List.drop_nil, TL.fmod_n, TL.fdiv_n, TL.cut_to, TL.cut_from, TL.cut_mid, Int.reduceEq, Int.reduceNe, Int.reduceNeg, Int.reduceAdd, Int.reduceMul, Int.reduceSub, Int.reduceLT, Int.reduceLE, Int.reduceGT, Int.reduceGE, Int.reducePow, Int.reduceToNat, Int.add_zero, Int.zero_add, String.reduceEq, String.reduceBEq]
        rw [show ((k + 1 : Nat) : Int) = (k : Int) + 1 by omega]
        simp only [at_i (show k < b.ds.length by omega), at_i1 (show k + 1 < b.ds.length by omega), Int.add_sub_cancel, ↓TL.x_var, ↓TL.x_lit, ↓TL.x_glb, ↓TL.x_tup, ↓TL.x_lst, ↓TL.x_emp, ↓TL.x_rvs, ↓TL.x_met, ↓TL.x_dc1, ↓TL.x_dc2, ↓TL.x_bin, ↓TL.x_neg, ↓TL.x_nt, ↓TL.x_cmp, ↓TL.x_chn, ↓TL.x_and, ↓TL.x_or, ↓TL.x_ife, ↓TL.x_idx, ↓TL.x_slc, ↓TL.x_call, ↓TL.x_pcall, ↓TL.x_bl1, ↓TL.x_bl2, ↓TL.x_isi, ↓TL.x_pop, ↓TL.x_lc, ↓TL.x_lc2, ↓TL.x_nil, ↓TL.x_cons, ↓TL.x_no, ↓TL.x_so, ↓TL.x_tof, ↓TL.x_tand, ↓TL.x_tor, ↓TL.x_tnt, ↓TL.x_tite, ↓TL.x_ctno, ↓TL.x_ctso, ↓TL.x_iof, ↓TL.x_irng1, ↓TL.x_irng2, ↓TL.x_irng3, ↓TL.x_ienum, ↓TL.x_izip, ↓TL.x_irev, ↓TL.s_asg_, ↓TL.s_par_, ↓TL.s_sub_, ↓TL.s_aug_, ↓TL.s_swp_, ↓TL.s_augs_, ↓TL.s_subW, ↓TL.s_exp_, ↓TL.s_app_, ↓TL.s_ite_, ↓TL.s_for_, ↓TL.s_whl_, ↓TL.s_retN_, ↓TL.s_brk_, ↓TL.s_cnt_, ↓TL.s_pas_, ↓TL.ss_nil_, ↓TL.ss_cons_, ↓TL.o_dc1, ↓TL.s_ret_dc1, ↓TL.o_dc2, ↓TL.s_ret_dc2, ↓TL.o_emp, ↓TL.s_ret_emp, ↓TL.o_rvs, ↓TL.s_ret_rvs, ↓TL.o_met, ↓TL.s_ret_met, ↓TL.o_lit, ↓TL.s_ret_lit, ↓TL.o_glb, ↓TL.s_ret_glb, ↓TL.o_tup, ↓TL.s_ret_tup, ↓TL.o_lst, ↓TL.s_ret_lst, ↓TL.o_bin, ↓TL.s_ret_bin, ↓TL.o_neg, ↓TL.s_ret_neg, ↓TL.o_nt, ↓TL.s_ret_nt, ↓TL.o_cmp, ↓TL.s_ret_cmp, ↓TL.o_chn, ↓TL.s_ret_chn, ↓TL.o_and, ↓TL.s_ret_and, ↓TL.o_or, ↓TL.s_ret_or, ↓TL.o_ife, ↓TL.s_ret_ife, ↓TL.o_idx, ↓TL.s_ret_idx, ↓TL.o_slc, ↓TL.s_ret_slc, ↓TL.o_call, ↓TL.s_ret_call, ↓TL.o_pcall, ↓TL.s_ret_pcall, ↓TL.o_bl1, ↓TL.s_ret_bl1, ↓TL.o_bl2, ↓TL.s_ret_bl2, ↓TL.o_isi, ↓TL.s_ret_isi, ↓TL.o_pop, ↓TL.s_ret_pop, ↓TL.o_lc, ↓TL.s_ret_lc, ↓TL.o_lc2, ↓TL.s_ret_lc2, ↓TL.o_var_, ↓TL.s_retv_, ↓TL.l_val, ↓TL.l_slot, ↓TL.tg_fz, ↓TL.tg_own, ↓TL.tg_tup, ↓TL.tg_nil, ↓TL.tg_cons, ↓TL.wv_fz, ↓TL.wv_own, ↓TL.wv_s, ↓TL.lk_fz, ↓TL.lk_own, ↓TL.lk_bor, ↓TL.lk_s, ↓TL.cs_s, ↓TL.cs_un, ↓TL.cs_fz, ↓TL.cs_own, ↓TL.hd_own, ↓TL.hd_bor, ↓TL.hd_s, ↓TL.sh_own, ↓TL.sh_bor, ↓TL.sh_s, ↓TL.st_0, ↓TL.st_s, ↓TL.fr_nil, ↓TL.fr_cons, ↓TL.wp_nil, ↓TL.wp_cons, ↓TL.bk_nil, ↓TL.bk_cons, ↓TL.b_addI, ↓TL.b_subI, ↓TL.b_mulI, ↓TL.b_divI, ↓TL.b_modI, ↓TL.b_powI, ↓TL.b_addS, ↓TL.b_addT, ↓TL.b_addL, ↓TL.b_mulL, ↓TL.b_mulT, ↓TL.a_add, ↓TL.a_sub, ↓TL.a_mul, ↓TL.c_Eq_int, ↓TL.c_Eq_bool, ↓TL.c_Eq_str, ↓TL.c_Eq_tuple, ↓TL.c_Eq_list, ↓TL.c_NotEq_int, ↓TL.c_NotEq_bool, ↓TL.c_NotEq_str, ↓TL.c_NotEq_tuple, ↓TL.c_NotEq_list, ↓TL.c_Lt, ↓TL.c_LtE, ↓TL.c_Gt, ↓TL.c_GtE, ↓TL.c_LtE_b, ↓TL.c_Is_b, ↓TL.c_Is_n, ↓TL.c_IsNot_b, ↓TL.c_IsNot_n, ↓TL.c_In_tuple, ↓TL.c_In_list, ↓TL.c_NotIn_tuple, ↓TL.c_NotIn_list, ↓TL.t_non, ↓TL.t_bl, ↓TL.t_int, ↓TL.t_str, ↓TL.t_lst, ↓TL.t_tup, ↓TL.i_lst, ↓TL.i_tup, ↓TL.sl_lst, ↓TL.sl_tup, ↓TL.as_i, ↓TL.as_b, ↓TL.it_l, ↓TL.it_t, ↓TL.ls_l, ↓TL.zp_n, ↓TL.zp_f, ↓TL.zp_s, ↓TL.rv_l, ↓TL.rv_t, ↓TL.m_sw, ↓TL.m_ew, ↓TL.m_ix, ↓TL.m_ixd, ↓TL.tm_ixd, ↓TL.tm_sw, ↓TL.tm_ew, ↓TL.tm_ix, ↓TL.c_Lt_t, ↓TL.f_lenL, ↓TL.f_lenT, ↓TL.f_lenS, ↓TL.f_abs, ↓TL.f_min, ↓TL.f_max, ↓TL.f_sum, ↓TL.f_all, ↓TL.f_any, ↓TL.f_sort, ↓TL.f_ssetL, ↓TL.f_ssetT, ↓TL.f_trng, ↓TL.f_denL, ↓TL.f_denT, ↓TL.f_tupL, ↓TL.f_tupT, ↓TL.f_lstL, ↓TL.f_lstT, ↓TL.f_intI, ↓TL.f_intB, ↓TL.f_str, ↓TL.g_min, ↓TL.g_max, ↓TL.rd_fz, ↓TL.rd_own, ↓TL.rs_fz, ↓TL.rs_own, ↓TL.ou_b, ↓TL.at_l0, ↓TL.at_l1, ↓TL.at_l2, ↓TL.at_l3, ↓TL.at_l4, ↓TL.at_l5, ↓TL.at_l6, ↓TL.at_l7, ↓TL.ix_l0, ↓TL.ix_l1, ↓TL.ix_l2, ↓TL.ix_l3, ↓TL.ix_l4, ↓TL.ix_l5, ↓TL.ix_l6, ↓TL.ix_l7, ↓TL.ix_l8, ↓TL.ix_l9, ↓TL.ix_l10, ↓TL.ix_l11, ↓TL.ix_l12, TL.isStr, TL.flatD, TL.inD, TL.isiD, TL.tyD, TL.isNone, TL.eqv_int, TL.eqv_bool, TL.eqv_str, TL.sh_int, TL.sh_bool, TL.sz_le, TL.sz_lt, TL.Sl.held, List.map_cons, List.map_nil, List.cons_append, List.nil_append, List.append_nil, List.length_cons, List.length_nil, List.length_map, List.length_set, List.set_cons_zero, List.set_cons_succ, Nat.reduceLT, List.all_cons, List.all_nil, List.any_cons, List.any_nil, List.zip_cons_cons, List.zip_nil_left, List.zip_nil_right, List.foldl_cons, List.foldl_nil, List.getD_cons_zero, List.getD_cons_succ, List.mem_cons, List.not_mem_nil, forall_eq_or_imp, forall_eq, or_false, false_or, true_or, or_true, true_and, and_true, false_and, and_false, false_implies, implies_true, forall_const, ↓reduceIte, if_true, if_false, Bool.false_eq_true, Bool.true_and, Bool.and_true, Bool.false_and, Bool.and_false, Bool.or_false, Bool.false_or, Bool.or_true, Bool.true_or, Bool.not_true, Bool.not_false, Bool.and_eq_true, Bool.or_eq_true, Bool.not_eq_true', decide_eq_true_eq, decide_eq_false_iff_not, ne_eq, not_false_eq_true, not_true_eq_false, reduceCtorEq, decide_true, decide_false, Nat.reduceAdd, Nat.reduceLeDiff, Nat.reduceEqDiff, TL.all_isInt, TL.map_intOf, TL.all_isBool, TL.map_boolOf, TL.take_ints, TL.drop_ints, List.take_succ_cons, List.take_zero, List.drop_succ_cons, List.drop_zero, List.take_nil, List.drop_nil, TL.fmod_n, TL.fdiv_n, TL.cut_to, TL.cut_from, TL.cut_mid, Int.reduceEq, Int.reduceNe, Int.reduceNeg, Int.reduceAdd, Int.reduceMul, Int.reduceSub, Int.reduceLT, Int.reduceLE, Int.reduceGT, Int.reduceGE, Int.reducePow, Int.reduceToNat, Int.add_zero, Int.zero_add, String.reduceEq, String.reduceBEq]
        refine law_fractionP_ok (n + 6) (k := 18) _ _ (szD i1 hd) (szD i1 i0) (by decide) (by omega) _ ?_
        walk_at "S"
        exact q
theorem same_row {b : Bond} (h : b.Ok) (day : Int) : SameT 5 (.tuple [pT (rowR b day), frD (restR b day)]) := ⟨by simp, fun x hx => by
  simp only [List.mem_cons, List.not_mem_nil, or_false] at hx
  rcases hx with rfl | rfl
  · exact same_pT 1 _ (by have := rowP_len b day b.bs.length; have := h.l1; unfold rowR; omega)
  · exact same_fr 2 _⟩
end Pr
end
section
namespace Pr
open PySem TL
abbrev bd : CSs := cbody (dropS 1 b_law)
def T0 (ns : List Int) (c : Int) (ρ : Slots) : Prop := ∃ (pd : List D) (s2 s3 s4 s5 s6 s7 s8 s9 : Sl), ρ = [.fz (.list (ns.map .int)), .own pd, s2, s3, s4, s5, s6, s7, s8, s9, .un] ∧ PenOk c pd ∧ nb s2 = true ∧ nb s3 = true ∧ nb s4 = true ∧ nb s5 = true ∧ nb s6 = true ∧ nb s7 = true ∧ nb s8 = true ∧ nb s9 = true
def T1 (ns : List Int) (b : Bond) (c : Int) (ρ : Slots) : Prop := ∃ (pd : List D) (s2 s4 s5 s8 s9 : Sl), ρ = [.fz (.list (ns.map .int)), .own pd, s2, .fz b.d, s4, s5, .fz (.tuple (b.ds.map .int)), .fz (.str (PyData.shown b.d)), s8, s9, .un] ∧ PenOk c pd ∧ nb s2 = true ∧ nb s4 = true ∧ nb s5 = true ∧ nb s8 = true ∧ nb s9 = true
def T2 (ns : List Int) (b : Bond) (c : Int) (ρ : Slots) : Prop := ∃ (pd : List D) (ys : List Int) (s2 s5 s8 s9 : Sl), ρ = [.fz (.list (ns.map .int)), .own pd, s2, .fz b.d, .own (ys.map .int), s5, .fz (.tuple (b.ds.map .int)), .fz (.str (PyData.shown b.d)), s8, s9, .un] ∧ ys.length = 6 ∧ (∀ y ∈ ys, y < b.ds.getD b.bs.length 0) ∧ PenOk c pd ∧ nb s2 = true ∧ nb s5 = true ∧ nb s8 = true ∧ nb s9 = true
structure BOk (b : Bond) : Prop where
  ok : b.Ok
  l : b.bs.length ≤ 12
  bs : PS 15 b.bs
  w : WordOk b.word
  s : ∀ i, i < b.ds.length → 1 ≤ b.ds.getD i 0 ∧ b.ds.getD i 0 ≤ 107000
theorem ne_ints {ds : List Int} (h : 1 ≤ ds.length) : ds.map PyData.int ≠ [] := fun e => by
  have := congrArg List.length e
  rw [List.length_map] at this
  simp only [List.length_nil] at this
  omega
theorem k18_a (ns : List Int) (c : Int) (hc : c ≤ 800000) : ∀ ρ n1 n2 n3 n4, T0 ns c ρ → (∀ ρ' b, BOk b → T1 ns b (c + 201) ρ' → n1 ρ') → TL.wpSs tb.G (run tb.G pr 39) (takeS 2 bd) ρ ⟨n1, n2, n3, n4⟩ := by
  rintro ρ n1 n2 n3 n4 ⟨pd, s2, s3, s4, s5, s6, s7, s8, s9, rfl, hp, h2, h3, h4, h5, h6, h7, h8, h9⟩ P
  unfold bd b_law
  simp only [dropS, takeS, cbody]
  walk_at "S"
  refine take_ok 37 100000 _ hp (by omega) (by omega) (by omega) fun st pd x0 x1 hp => ?_
  walk_at "S"
  refine draw_bond_ok 33 (1 + st) 12 (by decide) (by decide) (by omega) (by omega) _ hp (by omega) fun b pd ok hds l pb hw _ hp => ?_
  have rp := bond_rep ok (pb.mono (by decide)) hw
  have e : b.d = .tuple [.tuple (b.ds.map .int), frD b.rate, .int b.m, .str b.word, .tuple (pL b.bs)] := rfl
  rw [e]
  simp only [cs_nb h3, ↓TL.x_var, ↓TL.x_lit, ↓TL.x_glb, ↓TL.x_tup, ↓TL.x_lst, ↓TL.x_emp, ↓TL.x_rvs, ↓TL.x_met, ↓TL.x_dc1, ↓TL.x_dc2, ↓TL.x_bin, ↓TL.x_neg, ↓TL.x_nt, ↓TL.x_cmp, ↓TL.x_chn, ↓TL.x_and, ↓TL.x_or, ↓TL.x_ife, ↓TL.x_idx, ↓TL.x_slc, ↓TL.x_call, ↓TL.x_pcall, ↓TL.x_bl1, ↓TL.x_bl2, ↓TL.x_isi, ↓TL.x_pop, ↓TL.x_lc, ↓TL.x_lc2, ↓TL.x_nil, ↓TL.x_cons, ↓TL.x_no, ↓TL.x_so, ↓TL.x_tof, ↓TL.x_tand, ↓TL.x_tor, ↓TL.x_tnt, ↓TL.x_tite, ↓TL.x_ctno, ↓TL.x_ctso, ↓TL.x_iof, ↓TL.x_irng1, ↓TL.x_irng2, ↓TL.x_irng3, ↓TL.x_ienum, ↓TL.x_izip, ↓TL.x_irev, ↓TL.s_asg_, ↓TL.s_par_, ↓TL.s_sub_, ↓TL.s_aug_, ↓TL.s_swp_, ↓TL.s_augs_, ↓TL.s_subW, ↓TL.s_exp_, ↓TL.s_app_, ↓TL.s_ite_, ↓TL.s_for_, ↓TL.s_whl_, ↓TL.s_retN_, ↓TL.s_brk_, ↓TL.s_cnt_, ↓TL.s_pas_, ↓TL.ss_nil_, ↓TL.ss_cons_, ↓TL.o_dc1, ↓TL.s_ret_dc1, ↓TL.o_dc2, ↓TL.s_ret_dc2, ↓TL.o_emp, ↓TL.s_ret_emp, ↓TL.o_rvs, ↓TL.s_ret_rvs, ↓TL.o_met, ↓TL.s_ret_met, ↓TL.o_lit, ↓TL.s_ret_lit, ↓TL.o_glb, ↓TL.s_ret_glb, ↓TL.o_tup, ↓TL.s_ret_tup, ↓TL.o_lst, ↓TL.s_ret_lst, ↓TL.o_bin, ↓TL.s_ret_bin, ↓TL.o_neg, ↓TL.s_ret_neg, ↓TL.o_nt, ↓TL.s_ret_nt, ↓TL.o_cmp, ↓TL.s_ret_cmp, ↓TL.o_chn, ↓TL.s_ret_chn, ↓TL.o_and, ↓TL.s_ret_and, ↓TL.o_or, ↓TL.s_ret_or, ↓TL.o_ife, ↓TL.s_ret_ife, ↓TL.o_idx, ↓TL.s_ret_idx, ↓TL.o_slc, ↓TL.s_ret_slc, ↓TL.o_call, ↓TL.s_ret_call, ↓TL.o_pcall, ↓TL.s_ret_pcall, ↓TL.o_bl1, ↓TL.s_ret_bl1, ↓TL.o_bl2, ↓TL.s_ret_bl2, ↓TL.o_isi, ↓TL.s_ret_isi, ↓TL.o_pop, ↓TL.s_ret_pop, ↓TL.o_lc, ↓TL.s_ret_lc, ↓TL.o_lc2, ↓TL.s_ret_lc2, ↓TL.o_var_, ↓TL.s_retv_, ↓TL.l_val, ↓TL.l_slot, ↓TL.tg_fz, ↓TL.tg_own, ↓TL.tg_tup, ↓TL.tg_nil, ↓TL.tg_cons, ↓TL.wv_fz, ↓TL.wv_own, ↓TL.wv_s, ↓TL.lk_fz, ↓TL.lk_own, ↓TL.lk_bor, ↓TL.lk_s, ↓TL.cs_s, ↓TL.cs_un, ↓TL.cs_fz, ↓TL.cs_own, ↓TL.hd_own, ↓TL.hd_bor, ↓TL.hd_s, ↓TL.sh_own, ↓TL.sh_bor, ↓TL.sh_s, ↓TL.st_0, ↓TL.st_s, ↓TL.fr_nil, ↓TL.fr_cons, ↓TL.wp_nil, ↓TL.wp_cons, ↓TL.bk_nil, ↓TL.bk_cons, ↓TL.b_addI, ↓TL.b_subI, ↓TL.b_mulI, ↓TL.b_divI, ↓TL.b_modI, ↓TL.b_powI, ↓TL.b_addS, ↓TL.b_addT, ↓TL.b_addL, ↓TL.b_mulL, ↓TL.b_mulT, ↓TL.a_add, ↓TL.a_sub, ↓TL.a_mul, ↓TL.c_Eq_int, ↓TL.c_Eq_bool, ↓TL.c_Eq_str, ↓TL.c_Eq_tuple, ↓TL.c_Eq_list, ↓TL.c_NotEq_int, ↓TL.c_NotEq_bool, ↓TL.c_NotEq_str, ↓TL.c_NotEq_tuple, ↓TL.c_NotEq_list, ↓TL.c_Lt, ↓TL.c_LtE, ↓TL.c_Gt, ↓TL.c_GtE, ↓TL.c_LtE_b, ↓TL.c_Is_b, ↓TL.c_Is_n, ↓TL.c_IsNot_b, ↓TL.c_IsNot_n, ↓TL.c_In_tuple, ↓TL.c_In_list, ↓TL.c_NotIn_tuple, ↓TL.c_NotIn_list, ↓TL.t_non, ↓TL.t_bl, ↓TL.t_int, ↓TL.t_str, ↓TL.t_lst, ↓TL.t_tup, ↓TL.i_lst, ↓TL.i_tup, ↓TL.sl_lst, ↓TL.sl_tup, ↓TL.as_i, ↓TL.as_b, ↓TL.it_l, ↓TL.it_t, ↓TL.ls_l, ↓TL.zp_n, ↓TL.zp_f, ↓TL.zp_s, ↓TL.rv_l, ↓TL.rv_t, ↓TL.m_sw, ↓TL.m_ew, ↓TL.m_ix, ↓TL.m_ixd, ↓TL.tm_ixd, ↓TL.tm_sw, ↓TL.tm_ew, ↓TL.tm_ix, ↓TL.c_Lt_t, ↓TL.f_lenL, ↓TL.f_lenT, ↓TL.f_lenS, ↓TL.f_abs, ↓TL.f_min, ↓TL.f_max, ↓TL.f_sum, ↓TL.f_all, ↓TL.f_any, ↓TL.f_sort, ↓TL.f_ssetL, ↓TL.f_ssetT, ↓TL.f_trng, ↓TL.f_denL, ↓TL.f_denT, ↓TL.f_tupL, ↓TL.f_tupT, ↓TL.f_lstL, ↓TL.f_lstT, ↓TL.f_intI, ↓TL.f_intB, ↓TL.f_str, ↓TL.g_min, ↓TL.g_max, ↓TL.rd_fz, ↓TL.rd_own, ↓TL.rs_fz, ↓TL.rs_own, ↓TL.ou_b, ↓TL.at_l0, ↓TL.at_l1, ↓TL.at_l2, ↓TL.at_l3, ↓TL.at_l4, ↓TL.at_l5, ↓TL.at_l6, ↓TL.at_l7, ↓TL.ix_l0, ↓TL.ix_l1, ↓TL.ix_l2, ↓TL.ix_l3, ↓TL.ix_l4, ↓TL.ix_l5, ↓TL.ix_l6, ↓TL.ix_l7, ↓TL.ix_l8, ↓TL.ix_l9, ↓TL.ix_l10, ↓TL.ix_l11, ↓TL.ix_l12, TL.isStr, TL.flatD, TL.inD, TL.isiD, TL.tyD, TL.isNone, TL.eqv_int, TL.eqv_bool, TL.eqv_str, TL.sh_int, TL.sh_bool, TL.sz_le, TL.sz_lt, TL.Sl.held, List.map_cons, List.map_nil, List.cons_append, List.nil_append, List.append_nil, List.length_cons, List.length_nil, List.length_map, List.length_set, List.set_cons_zero, List.set_cons_succ, Nat.reduceLT, List.all_cons, List.all_nil, List.any_cons, List.any_nil, List.zip_cons_cons, List.zip_nil_left, List.zip_nil_right, List.foldl_cons, List.foldl_nil, List.getD_cons_zero, List.getD_cons_succ, List.mem_cons, List.not_mem_nil, forall_eq_or_imp, forall_eq, or_false, false_or, true_or, or_true, true_and, and_true, false_and, and_false, false_implies, implies_true, forall_const, ↓reduceIte, if_true, if_false, Bool.false_eq_true, Bool.true_and, Bool.and_true, Bool.false_and, Bool.and_false, Bool.or_false, Bool.false_or, Bool.or_true, Bool.true_or, Bool.not_true, Bool.not_false, Bool.and_eq_true, Bool.or_eq_true, Bool.not_eq_true', decide_eq_true_eq, decide_eq_false_iff_not, ne_eq, not_false_eq_true, not_true_eq_false, reduceCtorEq, decide_true, decide_false, Nat.reduceAdd, Nat.reduceLeDiff, Nat.reduceEqDiff, TL.all_isInt, TL.map_intOf, TL.all_isBool, TL.map_boolOf, TL.take_ints, TL.drop_ints, List.take_succ_cons, List.take_zero, List.drop_succ_cons, List.drop_zero, List.take_nil, List.drop_nil, TL.fmod_n, TL.fdiv_n, TL.cut_to, TL.cut_from, TL.cut_mid, Int.reduceEq, Int.reduceNe, Int.reduceNeg, Int.reduceAdd, Int.reduceMul, Int.reduceSub, Int.reduceLT, Int.reduceLE, Int.reduceGT, Int.reduceGE, Int.reducePow, Int.reduceToNat, Int.add_zero, Int.zero_add, String.reduceEq, String.reduceBEq]
  rw [← e]
  refine ⟨rp.2.1, rp.2.2.1, rp.2.2.2, ?_⟩
  simp only [cs_nb h6, cs_nb h7, ↓TL.x_var, ↓TL.x_lit, ↓TL.x_glb, ↓TL.x_tup, ↓TL.x_lst, ↓TL.x_emp, ↓TL.x_rvs, ↓TL.x_met, ↓TL.x_dc1, ↓TL.x_dc2, ↓TL.x_bin, ↓TL.x_neg, ↓TL.x_nt, ↓TL.x_cmp, ↓TL.x_chn, ↓TL.x_and, ↓TL.x_or, ↓TL.x_ife, ↓TL.x_idx, ↓TL.x_slc, ↓TL.x_call, ↓TL.x_pcall, ↓TL.x_bl1, ↓TL.x_bl2, ↓TL.x_isi, ↓TL.x_pop, ↓TL.x_lc, ↓TL.x_lc2, ↓TL.x_nil, ↓TL.x_cons, ↓TL.x_no, ↓TL.x_so, ↓TL.x_tof, ↓TL.x_tand, ↓TL.x_tor, ↓TL.x_tnt, ↓TL.x_tite, ↓TL.x_ctno, ↓TL.x_ctso, ↓TL.x_iof, ↓TL.x_irng1, ↓TL.x_irng2, ↓TL.x_irng3, ↓TL.x_ienum, ↓TL.x_izip, ↓TL.x_irev, ↓TL.s_asg_, ↓TL.s_par_, ↓TL.s_sub_, ↓TL.s_aug_, ↓TL.s_swp_, ↓TL.s_augs_, ↓TL.s_subW, ↓TL.s_exp_, ↓TL.s_app_, ↓TL.s_ite_, ↓TL.s_for_, ↓TL.s_whl_, ↓TL.s_retN_, ↓TL.s_brk_, ↓TL.s_cnt_, ↓TL.s_pas_, ↓TL.ss_nil_, ↓TL.ss_cons_, ↓TL.o_dc1, ↓TL.s_ret_dc1, ↓TL.o_dc2, ↓TL.s_ret_dc2, ↓TL.o_emp, ↓TL.s_ret_emp, ↓TL.o_rvs, ↓TL.s_ret_rvs, ↓TL.o_met, ↓TL.s_ret_met, ↓TL.o_lit, ↓TL.s_ret_lit, ↓TL.o_glb, ↓TL.s_ret_glb, ↓TL.o_tup, ↓TL.s_ret_tup, ↓TL.o_lst, ↓TL.s_ret_lst, ↓TL.o_bin, ↓TL.s_ret_bin, ↓TL.o_neg, ↓TL.s_ret_neg, ↓TL.o_nt, ↓TL.s_ret_nt, ↓TL.o_cmp, ↓TL.s_ret_cmp, ↓TL.o_chn, ↓TL.s_ret_chn, ↓TL.o_and, ↓TL.s_ret_and, ↓TL.o_or, ↓TL.s_ret_or, ↓TL.o_ife, ↓TL.s_ret_ife, ↓TL.o_idx, ↓TL.s_ret_idx, ↓TL.o_slc, ↓TL.s_ret_slc, ↓TL.o_call, ↓TL.s_ret_call, ↓TL.o_pcall, ↓TL.s_ret_pcall, ↓TL.o_bl1, ↓TL.s_ret_bl1, ↓TL.o_bl2, ↓TL.s_ret_bl2, ↓TL.o_isi, ↓TL.s_ret_isi, ↓TL.o_pop, ↓TL.s_ret_pop, ↓TL.o_lc, ↓TL.s_ret_lc, ↓TL.o_lc2, ↓TL.s_ret_lc2, ↓TL.o_var_, ↓TL.s_retv_, ↓TL.l_val, ↓TL.l_slot, ↓TL.tg_fz, ↓TL.tg_own, ↓TL.tg_tup, ↓TL.tg_nil, ↓TL.tg_cons, ↓TL.wv_fz, ↓TL.wv_own, ↓TL.wv_s, ↓TL.lk_fz, ↓TL.lk_own, ↓TL.lk_bor, ↓TL.lk_s, ↓TL.cs_s, ↓TL.cs_un, ↓TL.cs_fz, ↓TL.cs_own, ↓TL.hd_own, ↓TL.hd_bor, ↓TL.hd_s, ↓TL.sh_own, ↓TL.sh_bor, ↓TL.sh_s, ↓TL.st_0, ↓TL.st_s, ↓TL.fr_nil, ↓TL.fr_cons, ↓TL.wp_nil, ↓TL.wp_cons, ↓TL.bk_nil, ↓TL.bk_cons, ↓TL.b_addI, ↓TL.b_subI, ↓TL.b_mulI, ↓TL.b_divI, ↓TL.b_modI, ↓TL.b_powI, ↓TL.b_addS, ↓TL.b_addT, ↓TL.b_addL, ↓TL.b_mulL, ↓TL.b_mulT, ↓TL.a_add, ↓TL.a_sub, ↓TL.a_mul, ↓TL.c_Eq_int, ↓TL.c_Eq_bool, ↓TL.c_Eq_str, ↓TL.c_Eq_tuple, ↓TL.c_Eq_list, ↓TL.c_NotEq_int, ↓TL.c_NotEq_bool, ↓TL.c_NotEq_str, ↓TL.c_NotEq_tuple, ↓TL.c_NotEq_list, ↓TL.c_Lt, ↓TL.c_LtE, ↓TL.c_Gt, ↓TL.c_GtE, ↓TL.c_LtE_b, ↓TL.c_Is_b, ↓TL.c_Is_n, ↓TL.c_IsNot_b, ↓TL.c_IsNot_n, ↓TL.c_In_tuple, ↓TL.c_In_list, ↓TL.c_NotIn_tuple, ↓TL.c_NotIn_list, ↓TL.t_non, ↓TL.t_bl, ↓TL.t_int, ↓TL.t_str, ↓TL.t_lst, ↓TL.t_tup, ↓TL.i_lst, ↓TL.i_tup, ↓TL.sl_lst, ↓TL.sl_tup, ↓TL.as_i, ↓TL.as_b, ↓TL.it_l, ↓TL.it_t, ↓TL.ls_l, ↓TL.zp_n, ↓TL.zp_f, ↓TL.zp_s, ↓TL.rv_l, ↓TL.rv_t, ↓TL.m_sw, ↓TL.m_ew, ↓TL.m_ix, ↓TL.m_ixd, ↓TL.tm_ixd, ↓TL.tm_sw, ↓TL.tm_ew, ↓TL.tm_ix, ↓TL.c_Lt_t, ↓TL.f_lenL, ↓TL.f_lenT, ↓TL.f_lenS, ↓TL.f_abs, ↓TL.f_min, ↓TL.f_max, ↓TL.f_sum, ↓TL.f_all, ↓TL.f_any, ↓TL.f_sort, ↓TL.f_ssetL, ↓TL.f_ssetT, ↓TL.f_trng, ↓TL.f_denL, ↓TL.f_denT, ↓TL.f_tupL, ↓TL.f_tupT, ↓TL.f_lstL, ↓TL.f_lstT, ↓TL.f_intI, ↓TL.f_intB, ↓TL.f_str, ↓TL.g_min, ↓TL.g_max, ↓TL.rd_fz, ↓TL.rd_own, ↓TL.rs_fz, ↓TL.rs_own, ↓TL.ou_b, ↓TL.at_l0, ↓TL.at_l1, ↓TL.at_l2, ↓TL.at_l3, ↓TL.at_l4, ↓TL.at_l5, ↓TL.at_l6, ↓TL.at_l7, ↓TL.ix_l0, ↓TL.ix_l1, ↓TL.ix_l2, ↓TL.ix_l3, ↓TL.ix_l4, ↓TL.ix_l5, ↓TL.ix_l6, ↓TL.ix_l7, ↓TL.ix_l8, ↓TL.ix_l9, ↓TL.ix_l10, ↓TL.ix_l11, ↓TL.ix_l12, TL.isStr, TL.flatD, TL.inD, TL.isiD, TL.tyD, TL.isNone, TL.eqv_int, TL.eqv_bool, TL.eqv_str, TL.sh_int, TL.sh_bool, TL.sz_le, TL.sz_lt, TL.Sl.held, List.map_cons, List.map_nil, List.cons_append, List.nil_append, List.append_nil, List.length_cons, List.length_nil, List.length_map, List.length_set, List.set_cons_zero, List.set_cons_succ, Nat.reduceLT, List.all_cons, List.all_nil, List.any_cons, List.any_nil, List.zip_cons_cons, List.zip_nil_left, List.zip_nil_right, List.foldl_cons, List.foldl_nil, List.getD_cons_zero, List.getD_cons_succ, List.mem_cons, List.not_mem_nil, forall_eq_or_imp, forall_eq, or_false, false_or, true_or, or_true, true_and, and_true, false_and, and_false, false_implies, implies_true, forall_const, ↓reduceIte, if_true, if_false, Bool.false_eq_true, Bool.true_and, Bool.and_true, Bool.false_and, Bool.and_false, Bool.or_false, Bool.false_or, Bool.or_true, Bool.true_or, Bool.not_true, Bool.not_false, Bool.and_eq_true, Bool.or_eq_true, Bool.not_eq_true', decide_eq_true_eq, decide_eq_false_iff_not, ne_eq, not_false_eq_true, not_true_eq_false, reduceCtorEq, decide_true, decide_false, Nat.reduceAdd, Nat.reduceLeDiff, Nat.reduceEqDiff, TL.all_isInt, TL.map_intOf, TL.all_isBool, TL.map_boolOf, TL.take_ints, TL.drop_ints, List.take_succ_cons, List.take_zero, List.drop_succ_cons, List.drop_zero, List.take_nil, List.drop_nil, TL.fmod_n, TL.fdiv_n, TL.cut_to, TL.cut_from, TL.cut_mid, Int.reduceEq, Int.reduceNe, Int.reduceNeg, Int.reduceAdd, Int.reduceMul, Int.reduceSub, Int.reduceLT, Int.reduceLE, Int.reduceGT, Int.reduceGE, Int.reducePow, Int.reduceToNat, Int.add_zero, Int.zero_add, String.reduceEq, String.reduceBEq]
  refine P _ b ⟨ok, by omega, pb, hw, fun i hi => ?_⟩ ⟨pd, _, _, _, _, _, rfl, hp.mono (by omega), h2, h4, h5, h8, h9⟩
  have := hds.bd i hi
  have := ok.len
  omega
theorem atn2_ints {ds : List Int} {P : D → Prop} (h : 2 ≤ ds.length) : (∃ d, L2.atI (ds.map PyData.int) (-2) = some d ∧ P d) = P (.int (ds.getD (ds.length - 2) 0)) := by
  rw [at_neg (by omega) (by rw [List.length_map]; omega), List.length_map, show ((-2 : Int) + ds.length).toNat = ds.length - 2 by omega, List.getD_eq_getElem?_getD, List.getElem?_map, List.getD_eq_getElem?_getD, List.getElem?_eq_getElem (show ds.length - 2 < ds.length by omega)]
  rfl
theorem cut_m1 {xs : List D} : cutD xs none (some (-1)) = xs.take (xs.length - 1) := by
  unfold cutD
  rw [sIx_0, List.drop_zero, Nat.sub_zero]
  show xs.take ((if (-1 : Int) < 0 then (-1 + (xs.length : Int)).toNat else min (-1 : Int).toNat xs.length)) = _
  rw [if_pos (by decide)]
  congr 1
  omega
theorem k18_c (ns : List Int) (b : Bond) (h : BOk b) (c : Int) (hc : c ≤ 800000) : Piece tb.G (run tb.G pr 39) (takeS 1 (dropS 2 bd)) (T1 ns b c) (T2 ns b (c + 3)) No := by
  rintro ρ n1 n2 n3 n4 ⟨pd, s2, s4, s5, s8, s9, rfl, hp, h2, h4, h5, h8, h9⟩ P -
  have l0 := h.ok.l0
  have l := h.l
  have len := h.ok.len
  have b0 := h.s 0 (by omega)
  have last : b.ds.getD (b.ds.length - 1) 0 = b.ds.getD b.bs.length 0 := by rw [len]; rfl
  have ud := h.ok.lt (b.ds.length - 2) (b.ds.length - 1) (by omega) (by omega)
  have ul := h.ok.lt 0 (b.ds.length - 1) (by omega) (by omega)
  unfold bd b_law
  simp only [dropS, takeS, cbody]
  simp only [at_ints (show (0:Int) ≤ 0 by decide) (show (0 : Int) < b.ds.length by omega), atn_ints (show 1 ≤ b.ds.length by omega), atn2_ints (show 2 ≤ b.ds.length by omega), ↓TL.x_var, ↓TL.x_lit, ↓TL.x_glb, ↓TL.x_tup, ↓TL.x_lst, ↓TL.x_emp, ↓TL.x_rvs, ↓TL.x_met, ↓TL.x_dc1, ↓TL.x_dc2, ↓TL.x_bin, ↓TL.x_neg, ↓TL.x_nt, ↓TL.x_cmp, ↓TL.x_chn, ↓TL.x_and, ↓TL.x_or, ↓TL.x_ife, ↓TL.x_idx, ↓TL.x_slc, ↓TL.x_call, ↓TL.x_pcall, ↓TL.x_bl1, ↓TL.x_bl2, ↓TL.x_isi, ↓TL.x_pop, ↓TL.x_lc, ↓TL.x_lc2, ↓TL.x_nil, ↓TL.x_cons, ↓TL.x_no, ↓TL.x_so, ↓TL.x_tof, ↓TL.x_tand, ↓TL.x_tor, ↓TL.x_tnt, ↓TL.x_tite, ↓TL.x_ctno, ↓TL.x_ctso, ↓TL.x_iof, ↓TL.x_irng1, ↓TL.x_irng2, ↓TL.x_irng3, ↓TL.x_ienum, ↓TL.x_izip, ↓TL.x_irev, ↓TL.s_asg_, ↓TL.s_par_, ↓TL.s_sub_, ↓TL.s_aug_, ↓TL.s_swp_, ↓TL.s_augs_, ↓TL.s_subW, ↓TL.s_exp_, ↓TL.s_app_, ↓TL.s_ite_, ↓TL.s_for_, ↓TL.s_whl_, ↓TL.s_retN_, ↓TL.s_brk_, ↓TL.s_cnt_, ↓TL.s_pas_, ↓TL.ss_nil_, ↓TL.ss_cons_, ↓TL.o_dc1, ↓TL.s_ret_dc1, ↓TL.o_dc2, ↓TL.s_ret_dc2, ↓TL.o_emp, ↓TL.s_ret_emp, ↓TL.o_rvs, ↓TL.s_ret_rvs, ↓TL.o_met, ↓TL.s_ret_met, ↓TL.o_lit, ↓TL.s_ret_lit, ↓TL.o_glb, ↓TL.s_ret_glb, ↓TL.o_tup, ↓TL.s_ret_tup, ↓TL.o_lst, ↓TL.s_ret_lst, ↓TL.o_bin, ↓TL.s_ret_bin, ↓TL.o_neg, ↓TL.s_ret_neg, ↓TL.o_nt, ↓TL.s_ret_nt, ↓TL.o_cmp, ↓TL.s_ret_cmp, ↓TL.o_chn, ↓TL.s_ret_chn, ↓TL.o_and, ↓TL.s_ret_and, ↓TL.o_or, ↓TL.s_ret_or, ↓TL.o_ife, ↓TL.s_ret_ife, ↓TL.o_idx, ↓TL.s_ret_idx, ↓TL.o_slc, ↓TL.s_ret_slc, ↓TL.o_call, ↓TL.s_ret_call, ↓TL.o_pcall, ↓TL.s_ret_pcall, ↓TL.o_bl1, ↓TL.s_ret_bl1, ↓TL.o_bl2, ↓TL.s_ret_bl2, ↓TL.o_isi, ↓TL.s_ret_isi, ↓TL.o_pop, ↓TL.s_ret_pop, ↓TL.o_lc, ↓TL.s_ret_lc, ↓TL.o_lc2, ↓TL.s_ret_lc2, ↓TL.o_var_, ↓TL.s_retv_, ↓TL.l_val, ↓TL.l_slot, ↓TL.tg_fz, ↓TL.tg_own, ↓TL.tg_tup, ↓TL.tg_nil, ↓TL.tg_cons, ↓TL.wv_fz, ↓TL.wv_own, ↓TL.wv_s, ↓TL.lk_fz, ↓TL.lk_own, ↓TL.lk_bor, ↓TL.lk_s, ↓TL.cs_s, ↓TL.cs_un, ↓TL.cs_fz, ↓TL.cs_own, ↓TL.hd_own, ↓TL.hd_bor, ↓TL.hd_s, ↓TL.sh_own, ↓TL.sh_bor, ↓TL.sh_s, ↓TL.st_0, ↓TL.st_s, ↓TL.fr_nil, ↓TL.fr_cons, ↓TL.wp_nil, ↓TL.wp_cons, ↓TL.bk_nil, ↓TL.bk_cons, ↓TL.b_addI, ↓TL.b_subI, ↓TL.b_mulI, ↓TL.b_divI, ↓TL.b_modI, ↓TL.b_powI, ↓TL.b_addS, ↓TL.b_addT, ↓TL.b_addL, ↓TL.b_mulL, ↓TL.b_mulT, ↓TL.a_add, ↓TL.a_sub, ↓TL.a_mul, ↓TL.c_Eq_int, ↓TL.c_Eq_bool, ↓TL.c_Eq_str, ↓TL.c_Eq_tuple, ↓TL.c_Eq_list, ↓TL.c_NotEq_int, ↓TL.c_NotEq_bool, ↓TL.c_NotEq_str, ↓TL.c_NotEq_tuple, ↓TL.c_NotEq_list, ↓TL.c_Lt, ↓TL.c_LtE, ↓TL.c_Gt, ↓TL.c_GtE, ↓TL.c_LtE_b, ↓TL.c_Is_b, ↓TL.c_Is_n, ↓TL.c_IsNot_b, ↓TL.c_IsNot_n, ↓TL.c_In_tuple, ↓TL.c_In_list, ↓TL.c_NotIn_tuple, ↓TL.c_NotIn_list, ↓TL.t_non, ↓TL.t_bl, ↓TL.t_int, ↓TL.t_str, ↓TL.t_lst, ↓TL.t_tup, ↓TL.i_lst, ↓TL.i_tup, ↓TL.sl_lst, ↓TL.sl_tup, ↓TL.as_i, ↓TL.as_b, ↓TL.it_l, ↓TL.it_t, ↓TL.ls_l, ↓TL.zp_n, ↓TL.zp_f, ↓TL.zp_s, ↓TL.rv_l, ↓TL.rv_t, ↓TL.m_sw, ↓TL.m_ew, ↓TL.m_ix, ↓TL.m_ixd, ↓TL.tm_ixd, ↓TL.tm_sw, ↓TL.tm_ew, ↓TL.tm_ix, ↓TL.c_Lt_t, ↓TL.f_lenL, ↓TL.f_lenT, ↓TL.f_lenS, ↓TL.f_abs, ↓TL.f_min, ↓TL.f_max, ↓TL.f_sum, ↓TL.f_all, ↓TL.f_any, ↓TL.f_sort, ↓TL.f_ssetL, ↓TL.f_ssetT, ↓TL.f_trng, ↓TL.f_denL, ↓TL.f_denT, ↓TL.f_tupL, ↓TL.f_tupT, ↓TL.f_lstL, ↓TL.f_lstT, ↓TL.f_intI, ↓TL.f_intB, ↓TL.f_str, ↓TL.g_min, ↓TL.g_max, ↓TL.rd_fz, ↓TL.rd_own, ↓TL.rs_fz, ↓TL.rs_own, ↓TL.ou_b, ↓TL.at_l0, ↓TL.at_l1, ↓TL.at_l2, ↓TL.at_l3, ↓TL.at_l4, ↓TL.at_l5, ↓TL.at_l6, ↓TL.at_l7, ↓TL.ix_l0, ↓TL.ix_l1, ↓TL.ix_l2, ↓TL.ix_l3, ↓TL.ix_l4, ↓TL.ix_l5, ↓TL.ix_l6, ↓TL.ix_l7, ↓TL.ix_l8, ↓TL.ix_l9, ↓TL.ix_l10, ↓TL.ix_l11, ↓TL.ix_l12, TL.isStr, TL.flatD, TL.inD, TL.isiD, TL.tyD, TL.isNone, TL.eqv_int, TL.eqv_bool, TL.eqv_str, TL.sh_int, TL.sh_bool, TL.sz_le, TL.sz_lt, TL.Sl.held, List.map_cons, List.map_nil, List.cons_append, List.nil_append, List.append_nil, List.length_cons, List.length_nil, List.length_map, List.length_set, List.set_cons_zero, List.set_cons_succ, Nat.reduceLT, List.all_cons, List.all_nil, List.any_cons, List.any_nil, List.zip_cons_cons, List.zip_nil_left, List.zip_nil_right, List.foldl_cons, List.foldl_nil, List.getD_cons_zero, List.getD_cons_succ, List.mem_cons, List.not_mem_nil, forall_eq_or_imp, forall_eq, or_false, false_or, true_or, or_true, true_and, and_true, false_and, and_false, false_implies, implies_true, forall_const, ↓reduceIte, if_true, if_false, Bool.false_eq_true, Bool.true_and, Bool.and_true, Bool.false_and, Bool.and_false, Bool.or_false, Bool.false_or, Bool.or_true, Bool.true_or, Bool.not_true, Bool.not_false, Bool.and_eq_true, Bool.or_eq_true, Bool.not_eq_true', decide_eq_true_eq, decide_eq_false_iff_not, ne_eq, not_false_eq_true, not_true_eq_false, reduceCtorEq, decide_true, decide_false, Nat.reduceAdd, Nat.reduceLeDiff, Nat.reduceEqDiff, TL.all_isInt, TL.map_intOf, TL.all_isBool, TL.map_boolOf, TL.take_ints, TL.drop_ints, List.take_succ_cons, List.take_zero, List.drop_succ_cons, List.drop_zero, List.take_nil, List.drop_nil, TL.fmod_n, TL.fdiv_n, TL.cut_to, TL.cut_from, TL.cut_mid, Int.reduceEq, Int.reduceNe, Int.reduceNeg, Int.reduceAdd, Int.reduceMul, Int.reduceSub, Int.reduceLT, Int.reduceLE, Int.reduceGT, Int.reduceGE, Int.reducePow, Int.reduceToNat, Int.add_zero, Int.zero_add, String.reduceEq, String.reduceBEq]
  refine take_ok 37 _ _ hp (by omega) (show 0 < b.ds.getD 0 0 by omega) (by omega) fun x pd x0 x1 hp => ?_
  walk_at "S"
  rw [cut_m1, List.length_map, ← List.map_take]
  refine one_ofT_ok 36 _ hp (by omega) (ne_ints (by rw [List.length_take]; omega)) (by simp; omega) fun v hv pd hp => ?_
  obtain ⟨v1, hv1, rfl⟩ := List.mem_map.mp hv
  have hv1 : v1 < b.ds.getD (b.ds.length - 1) 0 := by
    rw [List.mem_iff_getElem?] at hv1
    obtain ⟨i, hi⟩ := hv1
    have hl := (List.getElem?_eq_some_iff.mp hi).1
    rw [List.length_take] at hl
    rw [List.getElem?_take_of_lt (by omega)] at hi
    have := h.ok.lt i (b.ds.length - 1) (by omega) (by omega)
    rwa [List.getD_eq_getElem?_getD, hi] at this
  simp only [cs_nb h4, ↓TL.x_var, ↓TL.x_lit, ↓TL.x_glb, ↓TL.x_tup, ↓TL.x_lst, ↓TL.x_emp, ↓TL.x_rvs, ↓TL.x_met, ↓TL.x_dc1, ↓TL.x_dc2, ↓TL.x_bin, ↓TL.x_neg, ↓TL.x_nt, ↓TL.x_cmp, ↓TL.x_chn, ↓TL.x_and, ↓TL.x_or, ↓TL.x_ife, ↓TL.x_idx, ↓TL.x_slc, ↓TL.x_call, ↓TL.x_pcall, ↓TL.x_bl1, ↓TL.x_bl2, ↓TL.x_isi, ↓TL.x_pop, ↓TL.x_lc, ↓TL.x_lc2, ↓TL.x_nil, ↓TL.x_cons, ↓TL.x_no, ↓TL.x_so, ↓TL.x_tof, ↓TL.x_tand, ↓TL.x_tor, ↓TL.x_tnt, ↓TL.x_tite, ↓TL.x_ctno, ↓TL.x_ctso, ↓TL.x_iof, ↓TL.x_irng1, ↓TL.x_irng2, ↓TL.x_irng3, ↓TL.x_ienum, ↓TL.x_izip, ↓TL.x_irev, ↓TL.s_asg_, ↓TL.s_par_, ↓TL.s_sub_, ↓TL.s_aug_, ↓TL.s_swp_, ↓TL.s_augs_, ↓TL.s_subW, ↓TL.s_exp_, ↓TL.s_app_, ↓TL.s_ite_, ↓TL.s_for_, ↓TL.s_whl_, ↓TL.s_retN_, ↓TL.s_brk_, ↓TL.s_cnt_, ↓TL.s_pas_, ↓TL.ss_nil_, ↓TL.ss_cons_, ↓TL.o_dc1, ↓TL.s_ret_dc1, ↓TL.o_dc2, ↓TL.s_ret_dc2, ↓TL.o_emp, ↓TL.s_ret_emp, ↓TL.o_rvs, ↓TL.s_ret_rvs, ↓TL.o_met, ↓TL.s_ret_met, ↓TL.o_lit, ↓TL.s_ret_lit, ↓TL.o_glb, ↓TL.s_ret_glb, ↓TL.o_tup, ↓TL.s_ret_tup, ↓TL.o_lst, ↓TL.s_ret_lst, ↓TL.o_bin, ↓TL.s_ret_bin, ↓TL.o_neg, ↓TL.s_ret_neg, ↓TL.o_nt, ↓TL.s_ret_nt, ↓TL.o_cmp, ↓TL.s_ret_cmp, ↓TL.o_chn, ↓TL.s_ret_chn, ↓TL.o_and, ↓TL.s_ret_and, ↓TL.o_or, ↓TL.s_ret_or, ↓TL.o_ife, ↓TL.s_ret_ife, ↓TL.o_idx, ↓TL.s_ret_idx, ↓TL.o_slc, ↓TL.s_ret_slc, ↓TL.o_call, ↓TL.s_ret_call, ↓TL.o_pcall, ↓TL.s_ret_pcall, ↓TL.o_bl1, ↓TL.s_ret_bl1, ↓TL.o_bl2, ↓TL.s_ret_bl2, ↓TL.o_isi, ↓TL.s_ret_isi, ↓TL.o_pop, ↓TL.s_ret_pop, ↓TL.o_lc, ↓TL.s_ret_lc, ↓TL.o_lc2, ↓TL.s_ret_lc2, ↓TL.o_var_, ↓TL.s_retv_, ↓TL.l_val, ↓TL.l_slot, ↓TL.tg_fz, ↓TL.tg_own, ↓TL.tg_tup, ↓TL.tg_nil, ↓TL.tg_cons, ↓TL.wv_fz, ↓TL.wv_own, ↓TL.wv_s, ↓TL.lk_fz, ↓TL.lk_own, ↓TL.lk_bor, ↓TL.lk_s, ↓TL.cs_s, ↓TL.cs_un, ↓TL.cs_fz, ↓TL.cs_own, ↓TL.hd_own, ↓TL.hd_bor, ↓TL.hd_s, ↓TL.sh_own, ↓TL.sh_bor, ↓TL.sh_s, ↓TL.st_0, ↓TL.st_s, ↓TL.fr_nil, ↓TL.fr_cons, ↓TL.wp_nil, ↓TL.wp_cons, ↓TL.bk_nil, ↓TL.bk_cons, ↓TL.b_addI, ↓TL.b_subI, ↓TL.b_mulI, ↓TL.b_divI, ↓TL.b_modI, ↓TL.b_powI, ↓TL.b_addS, ↓TL.b_addT, ↓TL.b_addL, ↓TL.b_mulL, ↓TL.b_mulT, ↓TL.a_add, ↓TL.a_sub, ↓TL.a_mul, ↓TL.c_Eq_int, ↓TL.c_Eq_bool, ↓TL.c_Eq_str, ↓TL.c_Eq_tuple, ↓TL.c_Eq_list, ↓TL.c_NotEq_int, ↓TL.c_NotEq_bool, ↓TL.c_NotEq_str, ↓TL.c_NotEq_tuple, ↓TL.c_NotEq_list, ↓TL.c_Lt, ↓TL.c_LtE, ↓TL.c_Gt, ↓TL.c_GtE, ↓TL.c_LtE_b, ↓TL.c_Is_b, ↓TL.c_Is_n, ↓TL.c_IsNot_b, ↓TL.c_IsNot_n, ↓TL.c_In_tuple, ↓TL.c_In_list, ↓TL.c_NotIn_tuple, ↓TL.c_NotIn_list, ↓TL.t_non, ↓TL.t_bl, ↓TL.t_int, ↓TL.t_str, ↓TL.t_lst, ↓TL.t_tup, ↓TL.i_lst, ↓TL.i_tup, ↓TL.sl_lst, ↓TL.sl_tup, ↓TL.as_i, ↓TL.as_b, ↓TL.it_l, ↓TL.it_t, ↓TL.ls_l, ↓TL.zp_n, ↓TL.zp_f, ↓TL.zp_s, ↓TL.rv_l, ↓TL.rv_t, ↓TL.m_sw, ↓TL.m_ew, ↓TL.m_ix, ↓TL.m_ixd, ↓TL.tm_ixd, ↓TL.tm_sw, ↓TL.tm_ew, ↓TL.tm_ix, ↓TL.c_Lt_t, ↓TL.f_lenL, ↓TL.f_lenT, ↓TL.f_lenS, ↓TL.f_abs, ↓TL.f_min, ↓TL.f_max, ↓TL.f_sum, ↓TL.f_all, ↓TL.f_any, ↓TL.f_sort, ↓TL.f_ssetL, ↓TL.f_ssetT, ↓TL.f_trng, ↓TL.f_denL, ↓TL.f_denT, ↓TL.f_tupL, ↓TL.f_tupT, ↓TL.f_lstL, ↓TL.f_lstT, ↓TL.f_intI, ↓TL.f_intB, ↓TL.f_str, ↓TL.g_min, ↓TL.g_max, ↓TL.rd_fz, ↓TL.rd_own, ↓TL.rs_fz, ↓TL.rs_own, ↓TL.ou_b, ↓TL.at_l0, ↓TL.at_l1, ↓TL.at_l2, ↓TL.at_l3, ↓TL.at_l4, ↓TL.at_l5, ↓TL.at_l6, ↓TL.at_l7, ↓TL.ix_l0, ↓TL.ix_l1, ↓TL.ix_l2, ↓TL.ix_l3, ↓TL.ix_l4, ↓TL.ix_l5, ↓TL.ix_l6, ↓TL.ix_l7, ↓TL.ix_l8, ↓TL.ix_l9, ↓TL.ix_l10, ↓TL.ix_l11, ↓TL.ix_l12, TL.isStr, TL.flatD, TL.inD, TL.isiD, TL.tyD, TL.isNone, TL.eqv_int, TL.eqv_bool, TL.eqv_str, TL.sh_int, TL.sh_bool, TL.sz_le, TL.sz_lt, TL.Sl.held, List.map_cons, List.map_nil, List.cons_append, List.nil_append, List.append_nil, List.length_cons, List.length_nil, List.length_map, List.length_set, List.set_cons_zero, List.set_cons_succ, Nat.reduceLT, List.all_cons, List.all_nil, List.any_cons, List.any_nil, List.zip_cons_cons, List.zip_nil_left, List.zip_nil_right, List.foldl_cons, List.foldl_nil, List.getD_cons_zero, List.getD_cons_succ, List.mem_cons, List.not_mem_nil, forall_eq_or_imp, forall_eq, or_false, false_or, true_or, or_true, true_and, and_true, false_and, and_false, false_implies, implies_true, forall_const, ↓reduceIte, if_true, if_false, Bool.false_eq_true, Bool.true_and, Bool.and_true, Bool.false_and, Bool.and_false, Bool.or_false, Bool.false_or, Bool.or_true, Bool.true_or, Bool.not_true, Bool.not_false, Bool.and_eq_true, Bool.or_eq_true, Bool.not_eq_true', decide_eq_true_eq, decide_eq_false_iff_not, ne_eq, not_false_eq_true, not_true_eq_false, reduceCtorEq, decide_true, decide_false, Nat.reduceAdd, Nat.reduceLeDiff, Nat.reduceEqDiff, TL.all_isInt, TL.map_intOf, TL.all_isBool, TL.map_boolOf, TL.take_ints, TL.drop_ints, List.take_succ_cons, List.take_zero, List.drop_succ_cons, List.drop_zero, List.take_nil, List.drop_nil, TL.fmod_n, TL.fdiv_n, TL.cut_to, TL.cut_from, TL.cut_mid, Int.reduceEq, Int.reduceNe, Int.reduceNeg, Int.reduceAdd, Int.reduceMul, Int.reduceSub, Int.reduceLT, Int.reduceLE, Int.reduceGT, Int.reduceGE, Int.reducePow, Int.reduceToNat, Int.add_zero, Int.zero_add, String.reduceEq, String.reduceBEq]
  refine P _ ⟨pd, [_, _, _, _, _, _], _, _, _, _, rfl, rfl, ?_, hp.mono (by omega), h2, h5, h8, h9⟩
  rw [← last]
  intro y hy
  simp only [List.mem_cons, List.not_mem_nil, or_false] at hy
  rcases hy with rfl | rfl | rfl | rfl | rfl | rfl
  · exact ul
  · have e : b.ds.getD (Int.toNat 0) 0 = b.ds.getD 0 0 := rfl
    omega
  · omega
  · exact ud
  · have e : b.ds.getD (Int.toNat 0) 0 = b.ds.getD 0 0 := rfl
    omega
  · exact hv1
theorem pL_reverse (p : List Rat) : (pL p).reverse = pL p.reverse := by unfold pL; rw [List.map_reverse]
def mix (b o : Bond) : Bond := ⟨b.ds, o.rate, o.m, o.word, b.bs.reverse⟩
theorem mix_ok {b o : Bond} (h : b.Ok) (g : o.Ok) : (mix b o).Ok := ⟨by show b.ds.length = b.bs.reverse.length + 1; rw [List.length_reverse]; exact h.len, by show 1 ≤ b.bs.reverse.length; rw [List.length_reverse]; exact h.l0, by show b.bs.reverse.length ≤ 20; rw [List.length_reverse]; exact h.l1, h.up, h.inD, g.rate, g.m0, g.m1, fun a m => h.bs a (List.mem_reverse.mp m)⟩
theorem k18_d (ns : List Int) (b : Bond) (h : BOk b) (c : Int) (hc : c ≤ 700000) : Piece tb.G (run tb.G pr 39) (dropS 3 bd) (T2 ns b c) (T0 ns (c + 3000)) No := by
  rintro ρ n1 n2 n3 n4 ⟨pd, ys, s2, s5, s8, s9, rfl, ly, hy, hp, h2, h5, h8, h9⟩ P -
  have l0 := h.ok.l0
  have l := h.l
  have len := h.ok.len
  have rp := bond_rep h.ok (h.bs.mono (by decide)) h.w
  have b0 := h.s 0 (by omega)
  have last : b.ds.getD (b.ds.length - 1) 0 = b.ds.getD b.bs.length 0 := by rw [len]; rfl
  have ul := h.ok.lt 0 (b.ds.length - 1) (by omega) (by omega)
  have b1 := h.s (b.ds.length - 1) (by omega)
  unfold bd b_law
  simp only [dropS, takeS, cbody]
  walk_at "S"
  refine ⟨⟨by decide, by decide⟩, ?_⟩
  refine lc_inv (fun i acc ρ => i ≤ 5 ∧ ∃ (zs : List Int) (pd : List D) (s10 : Sl), acc = zs.map .int ∧ zs.length = i ∧ (∀ y ∈ zs, y < b.ds.getD b.bs.length 0) ∧ PenOk (c + i) pd ∧ ρ = [.fz (.list (ns.map .int)), .own pd, s2, .fz b.d, .own (ys.map .int), s5, .fz (.tuple (b.ds.map .int)), .fz (.str (PyData.shown b.d)), s8, s9, s10]) ⟨by omega, [], pd, _, rfl, rfl, (fun a h => by cases h), hp.mono (by omega), rfl⟩ (fun i d acc ρ K hd hp' k1 => ?_) fun acc ρ hp' => ?_
  · obtain ⟨hi, zs, pd, s10, rfl, hl, hz, hp, rfl⟩ := hp'
    obtain ⟨rfl, hj⟩ := rng_get hd
    simp only [at_ints (show (0:Int) ≤ 0 by decide) (show (0 : Int) < b.ds.length by omega), atn_ints (show 1 ≤ b.ds.length by omega), ↓TL.x_var, ↓TL.x_lit, ↓TL.x_glb, ↓TL.x_tup, ↓TL.x_lst, ↓TL.x_emp, ↓TL.x_rvs, ↓TL.x_met, ↓TL.x_dc1, ↓TL.x_dc2, ↓TL.x_bin, ↓TL.x_neg, ↓TL.x_nt, ↓TL.x_cmp, ↓TL.x_chn, ↓TL.x_and, ↓TL.x_or, ↓TL.x_ife, ↓TL.x_idx, ↓TL.x_slc, ↓TL.x_call, ↓TL.x_pcall, ↓TL.x_bl1, ↓TL.x_bl2, ↓TL.x_isi, ↓TL.x_pop, ↓TL.x_lc, ↓TL.x_lc2, ↓TL.x_nil, ↓TL.x_cons, ↓TL.x_no, ↓TL.x_so, ↓TL.x_tof, ↓TL.x_tand, ↓TL.x_tor, ↓TL.x_tnt, ↓TL.x_tite, ↓TL.x_ctno, ↓TL.x_ctso, ↓TL.x_iof, ↓TL.x_irng1, ↓TL.x_irng2, ↓TL.x_irng3, ↓TL.x_ienum, ↓TL.x_izip, ↓TL.x_irev, ↓TL.s_asg_, ↓TL.s_par_, ↓TL.s_sub_, ↓TL.s_aug_, ↓TL.s_swp_, ↓TL.s_augs_, ↓TL.s_subW, ↓TL.s_exp_, ↓TL.s_app_, ↓TL.s_ite_, ↓TL.s_for_, ↓TL.s_whl_, ↓TL.s_retN_, ↓TL.s_brk_, ↓TL.s_cnt_, ↓TL.s_pas_, ↓TL.ss_nil_, ↓TL.ss_cons_, ↓TL.o_dc1, ↓TL.s_ret_dc1, ↓TL.o_dc2, ↓TL.s_ret_dc2, ↓TL.o_emp, ↓TL.s_ret_emp, ↓TL.o_rvs, ↓TL.s_ret_rvs, ↓TL.o_met, ↓TL.s_ret_met, ↓TL.o_lit, ↓TL.s_ret_lit, ↓TL.o_glb, ↓TL.s_ret_glb, ↓TL.o_tup, ↓TL.s_ret_tup, ↓TL.o_lst, ↓TL.s_ret_lst, ↓TL.o_bin, ↓TL.s_ret_bin, ↓TL.o_neg, ↓TL.s_ret_neg, ↓TL.o_nt, ↓TL.s_ret_nt, ↓TL.o_cmp, ↓TL.s_ret_cmp, ↓TL.o_chn, ↓TL.s_ret_chn, ↓TL.o_and, ↓TL.s_ret_and, ↓TL.o_or, ↓TL.s_ret_or, ↓TL.o_ife, ↓TL.s_ret_ife, ↓TL.o_idx, ↓TL.s_ret_idx, ↓TL.o_slc, ↓TL.s_ret_slc, ↓TL.o_call, ↓TL.s_ret_call, ↓TL.o_pcall, ↓TL.s_ret_pcall, ↓TL.o_bl1, ↓TL.s_ret_bl1, ↓TL.o_bl2, ↓TL.s_ret_bl2, ↓TL.o_isi, ↓TL.s_ret_isi, ↓TL.o_pop, ↓TL.s_ret_pop, ↓TL.o_lc, ↓TL.s_ret_lc, ↓TL.o_lc2, ↓TL.s_ret_lc2, ↓TL.o_var_, ↓TL.s_retv_, ↓TL.l_val, ↓TL.l_slot, ↓TL.tg_fz, ↓TL.tg_own, ↓TL.tg_tup, ↓TL.tg_nil, ↓TL.tg_cons, ↓TL.wv_fz, ↓TL.wv_own, ↓TL.wv_s, ↓TL.lk_fz, ↓TL.lk_own, ↓TL.lk_bor, ↓TL.lk_s, ↓TL.cs_s, ↓TL.cs_un, ↓TL.cs_fz, ↓TL.cs_own, ↓TL.hd_own, ↓TL.hd_bor, ↓TL.hd_s, ↓TL.sh_own, ↓TL.sh_bor, ↓TL.sh_s, ↓TL.st_0, ↓TL.st_s, ↓TL.fr_nil, ↓TL.fr_cons, ↓TL.wp_nil, ↓TL.wp_cons, ↓TL.bk_nil, ↓TL.bk_cons, ↓TL.b_addI, ↓TL.b_subI, ↓TL.b_mulI, ↓TL.b_divI, ↓TL.b_modI, ↓TL.b_powI, ↓TL.b_addS, ↓TL.b_addT, ↓TL.b_addL, ↓TL.b_mulL, ↓TL.b_mulT, ↓TL.a_add, ↓TL.a_sub, ↓TL.a_mul, ↓TL.c_Eq_int, ↓TL.c_Eq_bool, ↓TL.c_Eq_str, ↓TL.c_Eq_tuple, ↓TL.c_Eq_list, ↓TL.c_NotEq_int, ↓TL.c_NotEq_bool, ↓TL.c_NotEq_str, ↓TL.c_NotEq_tuple, ↓TL.c_NotEq_list, ↓TL.c_Lt, ↓TL.c_LtE, ↓TL.c_Gt, ↓TL.c_GtE, ↓TL.c_LtE_b, ↓TL.c_Is_b, ↓TL.c_Is_n, ↓TL.c_IsNot_b, ↓TL.c_IsNot_n, ↓TL.c_In_tuple, ↓TL.c_In_list, ↓TL.c_NotIn_tuple, ↓TL.c_NotIn_list, ↓TL.t_non, ↓TL.t_bl, ↓TL.t_int, ↓TL.t_str, ↓TL.t_lst, ↓TL.t_tup, ↓TL.i_lst, ↓TL.i_tup, ↓TL.sl_lst, ↓TL.sl_tup, ↓TL.as_i, ↓TL.as_b, ↓TL.it_l, ↓TL.it_t, ↓TL.ls_l, ↓TL.zp_n, ↓TL.zp_f, ↓TL.zp_s, ↓TL.rv_l, ↓TL.rv_t, ↓TL.m_sw, ↓TL.m_ew, ↓TL.m_ix, ↓TL.m_ixd, ↓TL.tm_ixd, ↓TL.tm_sw, ↓TL.tm_ew, ↓TL.tm_ix, ↓TL.c_Lt_t, ↓TL.f_lenL, ↓TL.f_lenT, ↓TL.f_lenS, ↓TL.f_abs, ↓TL.f_min, ↓TL.f_max, ↓TL.f_sum, ↓TL.f_all, ↓TL.f_any, ↓TL.f_sort, ↓TL.f_ssetL, ↓TL.f_ssetT, ↓TL.f_trng, ↓TL.f_denL, ↓TL.f_denT, ↓TL.f_tupL, ↓TL.f_tupT, ↓TL.f_lstL, ↓TL.f_lstT, ↓TL.f_intI, ↓TL.f_intB, ↓TL.f_str, ↓TL.g_min, ↓TL.g_max, ↓TL.rd_fz, ↓TL.rd_own, ↓TL.rs_fz, ↓TL.rs_own, ↓TL.ou_b, ↓TL.at_l0, ↓TL.at_l1, ↓TL.at_l2, ↓TL.at_l3, ↓TL.at_l4, ↓TL.at_l5, ↓TL.at_l6, ↓TL.at_l7, ↓TL.ix_l0, ↓TL.ix_l1, ↓TL.ix_l2, ↓TL.ix_l3, ↓TL.ix_l4, ↓TL.ix_l5, ↓TL.ix_l6, ↓TL.ix_l7, ↓TL.ix_l8, ↓TL.ix_l9, ↓TL.ix_l10, ↓TL.ix_l11, ↓TL.ix_l12, TL.isStr, TL.flatD, TL.inD, TL.isiD, TL.tyD, TL.isNone, TL.eqv_int, TL.eqv_bool, TL.eqv_str, TL.sh_int, TL.sh_bool, TL.sz_le, TL.sz_lt, TL.Sl.held, List.map_cons, List.map_nil, List.cons_append, List.nil_append, List.append_nil, List.length_cons, List.length_nil, List.length_map, List.length_set, List.set_cons_zero, List.set_cons_succ, Nat.reduceLT, List.all_cons, List.all_nil, List.any_cons, List.any_nil, List.zip_cons_cons, List.zip_nil_left, List.zip_nil_right, List.foldl_cons, List.foldl_nil, List.getD_cons_zero, List.getD_cons_succ, List.mem_cons, List.not_mem_nil, forall_eq_or_imp, forall_eq, or_false, false_or, true_or, or_true, true_and, and_true, false_and, and_false, false_implies, implies_true, forall_const, ↓reduceIte, if_true, if_false, Bool.false_eq_true, Bool.true_and, Bool.and_true, Bool.false_and, Bool.and_false, Bool.or_false, Bool.false_or, Bool.or_true, Bool.true_or, Bool.not_true, Bool.not_false, Bool.and_eq_true, Bool.or_eq_true, Bool.not_eq_true', decide_eq_true_eq, decide_eq_false_iff_not, ne_eq, not_false_eq_true, not_true_eq_false, reduceCtorEq, decide_true, decide_false, Nat.reduceAdd, Nat.reduceLeDiff, Nat.reduceEqDiff, TL.all_isInt, TL.map_intOf, TL.all_isBool, TL.map_boolOf, TL.take_ints, TL.drop_ints, List.take_succ_cons, List.take_zero, List.drop_succ_cons, List.drop_zero, List.take_nil, List.drop_nil, TL.fmod_n, TL.fdiv_n, TL.cut_to, TL.cut_from, TL.cut_mid, Int.reduceEq, Int.reduceNe, Int.reduceNeg, Int.reduceAdd, Int.reduceMul, Int.reduceSub, Int.reduceLT, Int.reduceLE, Int.reduceGT, Int.reduceGE, Int.reducePow, Int.reduceToNat, Int.add_zero, Int.zero_add, String.reduceEq, String.reduceBEq]
    refine take_ok 37 _ _ hp (by omega) (by omega) (by omega) fun x pd x0 x1 hp => ?_
    walk_at "S"
    refine ⟨szl (by omega), k1 _ _ ⟨by omega, zs ++ [b.ds.getD 0 0 + x], pd, _, by simp, by simp [hl], fun y hy => ?_, hp.mono (by omega), rfl⟩⟩
    rcases List.mem_append.mp hy with z | z
    · exact hz y z
    · rw [List.mem_singleton] at z; subst z; omega
  · obtain ⟨hi, zs, pd, t10, rfl, hl, hz, hp, rfl⟩ := hp'
    rw [rng_len] at hl hp
    walk_at "S"
    refine ⟨by rw [ly, hl]; decide, ?_⟩
    rw [← List.map_append]
    have lz : (ys ++ zs).length = 11 := by rw [List.length_append, ly, hl]; rfl
    have hyz : ∀ y ∈ ys ++ zs, y < b.ds.getD b.bs.length 0 := fun y hm => by
      rcases List.mem_append.mp hm with z | z
      · exact hy y z
      · exact hz y z
    generalize ys ++ zs = ws at *
    refine for_inv (fun i ρ => ∃ (pd : List D) (s5 s8 s9 : Sl), PenOk (c + 5 + 210 * i) pd ∧ nb s5 = true ∧ nb s8 = true ∧ nb s9 = true ∧ ρ = [.fz (.list (ns.map .int)), .own pd, s2, .fz b.d, .own (ys.map .int), s5, .fz (.tuple (b.ds.map .int)), .fz (.str (PyData.shown b.d)), s8, s9, .un]) ⟨pd, _, _, _, hp.mono (by omega), h5, h8, h9, rfl⟩ (fun i d ρ m1 m4 hd hs k1 k4 => ?_) (fun ρ hs => ?_)
    · obtain ⟨pd, s5, s8, s9, hp, h5, h8, h9, rfl⟩ := hs
      have hi := (List.getElem?_eq_some_iff.mp hd).1
      rw [List.length_map, lz] at hi
      obtain ⟨day, hday, rfl⟩ := List.mem_map.mp (List.mem_of_getElem? hd)
      have hday := hyz day hday
      have e : b.d = .tuple [.tuple (b.ds.map .int), frD b.rate, .int b.m, .str b.word, .tuple (pL b.bs)] := rfl
      have e2 : ∀ o : Bond, o.d = .tuple [.tuple (o.ds.map .int), frD o.rate, .int o.m, .str o.word, .tuple (pL o.bs)] := fun _ => rfl
      rw [e]
      simp only [cs_nb h5, ↓TL.x_var, ↓TL.x_lit, ↓TL.x_glb, ↓TL.x_tup, ↓TL.x_lst, ↓TL.x_emp, ↓TL.x_rvs, ↓TL.x_met, ↓TL.x_dc1, ↓TL.x_dc2, ↓TL.x_bin, ↓TL.x_neg, ↓TL.x_nt, ↓TL.x_cmp, ↓TL.x_chn, ↓TL.x_and, ↓TL.x_or, ↓TL.x_ife, ↓TL.x_idx, ↓TL.x_slc, ↓TL.x_call, ↓TL.x_pcall, ↓TL.x_bl1, ↓TL.x_bl2, ↓TL.x_isi, ↓TL.x_pop, ↓TL.x_lc, ↓TL.x_lc2, ↓TL.x_nil, ↓TL.x_cons, ↓TL.x_no, ↓TL.x_so, ↓TL.x_tof, ↓TL.x_tand, ↓TL.x_tor, ↓TL.x_tnt, ↓TL.x_tite, ↓TL.x_ctno, ↓TL.x_ctso, ↓TL.x_iof, ↓TL.x_irng1, ↓TL.x_irng2, ↓TL.x_irng3, ↓TL.x_ienum, ↓TL.x_izip, ↓TL.x_irev, ↓TL.s_asg_, ↓TL.s_par_, ↓TL.s_sub_, ↓TL.s_aug_, ↓TL.s_swp_, ↓TL.s_augs_, ↓TL.s_subW, ↓TL.s_exp_, ↓TL.s_app_, ↓TL.s_ite_, ↓TL.s_for_, ↓TL.s_whl_, ↓TL.s_retN_, ↓TL.s_brk_, ↓TL.s_cnt_, ↓TL.s_pas_, ↓TL.ss_nil_, ↓TL.ss_cons_, ↓TL.o_dc1, ↓TL.s_ret_dc1, ↓TL.o_dc2, ↓TL.s_ret_dc2, ↓TL.o_emp, ↓TL.s_ret_emp, ↓TL.o_rvs, ↓TL.s_ret_rvs, ↓TL.o_met, ↓TL.s_ret_met, ↓TL.o_lit, ↓TL.s_ret_lit, ↓TL.o_glb, ↓TL.s_ret_glb, ↓TL.o_tup, ↓TL.s_ret_tup, ↓TL.o_lst, ↓TL.s_ret_lst, ↓TL.o_bin, ↓TL.s_ret_bin, ↓TL.o_neg, ↓TL.s_ret_neg, ↓TL.o_nt, ↓TL.s_ret_nt, ↓TL.o_cmp, ↓TL.s_ret_cmp, ↓TL.o_chn, ↓TL.s_ret_chn, ↓TL.o_and, ↓TL.s_ret_and, ↓TL.o_or, ↓TL.s_ret_or, ↓TL.o_ife, ↓TL.s_ret_ife, ↓TL.o_idx, ↓TL.s_ret_idx, ↓TL.o_slc, ↓TL.s_ret_slc, ↓TL.o_call, ↓TL.s_ret_call, ↓TL.o_pcall, ↓TL.s_ret_pcall, ↓TL.o_bl1, ↓TL.s_ret_bl1, ↓TL.o_bl2, ↓TL.s_ret_bl2, ↓TL.o_isi, ↓TL.s_ret_isi, ↓TL.o_pop, ↓TL.s_ret_pop, ↓TL.o_lc, ↓TL.s_ret_lc, ↓TL.o_lc2, ↓TL.s_ret_lc2, ↓TL.o_var_, ↓TL.s_retv_, ↓TL.l_val, ↓TL.l_slot, ↓TL.tg_fz, ↓TL.tg_own, ↓TL.tg_tup, ↓TL.tg_nil, ↓TL.tg_cons, ↓TL.wv_fz, ↓TL.wv_own, ↓TL.wv_s, ↓TL.lk_fz, ↓TL.lk_own, ↓TL.lk_bor, ↓TL.lk_s, ↓TL.cs_s, ↓TL.cs_un, ↓TL.cs_fz, ↓TL.cs_own, ↓TL.hd_own, ↓TL.hd_bor, ↓TL.hd_s, ↓TL.sh_own, ↓TL.sh_bor, ↓TL.sh_s, ↓TL.st_0, ↓TL.st_s, ↓TL.fr_nil, ↓TL.fr_cons, ↓TL.wp_nil, ↓TL.wp_cons, ↓TL.bk_nil, ↓TL.bk_cons, ↓TL.b_addI, ↓TL.b_subI, ↓TL.b_mulI, ↓TL.b_divI, ↓TL.b_modI, ↓TL.b_powI, ↓TL.b_addS, ↓TL.b_addT, ↓TL.b_addL, ↓TL.b_mulL, ↓TL.b_mulT, ↓TL.a_add, ↓TL.a_sub, ↓TL.a_mul, ↓TL.c_Eq_int, ↓TL.c_Eq_bool, ↓TL.c_Eq_str, ↓TL.c_Eq_tuple, ↓TL.c_Eq_list, ↓TL.c_NotEq_int, ↓TL.c_NotEq_bool, ↓TL.c_NotEq_str, ↓TL.c_NotEq_tuple, ↓TL.c_NotEq_list, ↓TL.c_Lt, ↓TL.c_LtE, ↓TL.c_Gt, ↓TL.c_GtE, ↓TL.c_LtE_b, ↓TL.c_Is_b, ↓TL.c_Is_n, ↓TL.c_IsNot_b, ↓TL.c_IsNot_n, ↓TL.c_In_tuple, ↓TL.c_In_list, ↓TL.c_NotIn_tuple, ↓TL.c_NotIn_list, ↓TL.t_non, ↓TL.t_bl, ↓TL.t_int, ↓TL.t_str, ↓TL.t_lst, ↓TL.t_tup, ↓TL.i_lst, ↓TL.i_tup, ↓TL.sl_lst, ↓TL.sl_tup, ↓TL.as_i, ↓TL.as_b, ↓TL.it_l, ↓TL.it_t, ↓TL.ls_l, ↓TL.zp_n, ↓TL.zp_f, ↓TL.zp_s, ↓TL.rv_l, ↓TL.rv_t, ↓TL.m_sw, ↓TL.m_ew, ↓TL.m_ix, ↓TL.m_ixd, ↓TL.tm_ixd, ↓TL.tm_sw, ↓TL.tm_ew, ↓TL.tm_ix, ↓TL.c_Lt_t, ↓TL.f_lenL, ↓TL.f_lenT, ↓TL.f_lenS, ↓TL.f_abs, ↓TL.f_min, ↓TL.f_max, ↓TL.f_sum, ↓TL.f_all, ↓TL.f_any, ↓TL.f_sort, ↓TL.f_ssetL, ↓TL.f_ssetT, ↓TL.f_trng, ↓TL.f_denL, ↓TL.f_denT, ↓TL.f_tupL, ↓TL.f_tupT, ↓TL.f_lstL, ↓TL.f_lstT, ↓TL.f_intI, ↓TL.f_intB, ↓TL.f_str, ↓TL.g_min, ↓TL.g_max, ↓TL.rd_fz, ↓TL.rd_own, ↓TL.rs_fz, ↓TL.rs_own, ↓TL.ou_b, ↓TL.at_l0, ↓TL.at_l1, ↓TL.at_l2, ↓TL.at_l3, ↓TL.at_l4, ↓TL.at_l5, ↓TL.at_l6, ↓TL.at_l7, ↓TL.ix_l0, ↓TL.ix_l1, ↓TL.ix_l2, ↓TL.ix_l3, ↓TL.ix_l4, ↓TL.ix_l5, ↓TL.ix_l6, ↓TL.ix_l7, ↓TL.ix_l8, ↓TL.ix_l9, ↓TL.ix_l10, ↓TL.ix_l11, ↓TL.ix_l12, TL.isStr, TL.flatD, TL.inD, TL.isiD, TL.tyD, TL.isNone, TL.eqv_int, TL.eqv_bool, TL.eqv_str, TL.sh_int, TL.sh_bool, TL.sz_le, TL.sz_lt, TL.Sl.held, List.map_cons, List.map_nil, List.cons_append, List.nil_append, List.append_nil, List.length_cons, List.length_nil, List.length_map, List.length_set, List.set_cons_zero, List.set_cons_succ, Nat.reduceLT, List.all_cons, List.all_nil, List.any_cons, List.any_nil, List.zip_cons_cons, List.zip_nil_left, List.zip_nil_right, List.foldl_cons, List.foldl_nil, List.getD_cons_zero, List.getD_cons_succ, List.mem_cons, List.not_mem_nil, forall_eq_or_imp, forall_eq, or_false, false_or, true_or, or_true, true_and, and_true, false_and, and_false, false_implies, implies_true, forall_const, ↓reduceIte, if_true, if_false, Bool.false_eq_true, Bool.true_and, Bool.and_true, Bool.false_and, Bool.and_false, Bool.or_false, Bool.false_or, Bool.or_true, Bool.true_or, Bool.not_true, Bool.not_false, Bool.and_eq_true, Bool.or_eq_true, Bool.not_eq_true', decide_eq_true_eq, decide_eq_false_iff_not, ne_eq, not_false_eq_true, not_true_eq_false, reduceCtorEq, decide_true, decide_false, Nat.reduceAdd, Nat.reduceLeDiff, Nat.reduceEqDiff, TL.all_isInt, TL.map_intOf, TL.all_isBool, TL.map_boolOf, TL.take_ints, TL.drop_ints, List.take_succ_cons, List.take_zero, List.drop_succ_cons, List.drop_zero, List.take_nil, List.drop_nil, TL.fmod_n, TL.fdiv_n, TL.cut_to, TL.cut_from, TL.cut_mid, Int.reduceEq, Int.reduceNe, Int.reduceNeg, Int.reduceAdd, Int.reduceMul, Int.reduceSub, Int.reduceLT, Int.reduceLE, Int.reduceGT, Int.reduceGE, Int.reducePow, Int.reduceToNat, Int.add_zero, Int.zero_add, String.reduceEq, String.reduceBEq]
      refine draw_bond_ok 33 1 1 (by decide) (by decide) (by decide) (by decide) _ hp (by omega) fun o pd ook _ _ _ _ _ hp => ?_
      rw [e2 o]
      simp only [cs_nb h8, ↓TL.x_var, ↓TL.x_lit, ↓TL.x_glb, ↓TL.x_tup, ↓TL.x_lst, ↓TL.x_emp, ↓TL.x_rvs, ↓TL.x_met, ↓TL.x_dc1, ↓TL.x_dc2, ↓TL.x_bin, ↓TL.x_neg, ↓TL.x_nt, ↓TL.x_cmp, ↓TL.x_chn, ↓TL.x_and, ↓TL.x_or, ↓TL.x_ife, ↓TL.x_idx, ↓TL.x_slc, ↓TL.x_call, ↓TL.x_pcall, ↓TL.x_bl1, ↓TL.x_bl2, ↓TL.x_isi, ↓TL.x_pop, ↓TL.x_lc, ↓TL.x_lc2, ↓TL.x_nil, ↓TL.x_cons, ↓TL.x_no, ↓TL.x_so, ↓TL.x_tof, ↓TL.x_tand, ↓TL.x_tor, ↓TL.x_tnt, ↓TL.x_tite, ↓TL.x_ctno, ↓TL.x_ctso, ↓TL.x_iof, ↓TL.x_irng1, ↓TL.x_irng2, ↓TL.x_irng3, ↓TL.x_ienum, ↓TL.x_izip, ↓TL.x_irev, ↓TL.s_asg_, ↓TL.s_par_, ↓TL.s_sub_, ↓TL.s_aug_, ↓TL.s_swp_, ↓TL.s_augs_, ↓TL.s_subW, ↓TL.s_exp_, ↓TL.s_app_, ↓TL.s_ite_, ↓TL.s_for_, ↓TL.s_whl_, ↓TL.s_retN_, ↓TL.s_brk_, ↓TL.s_cnt_, ↓TL.s_pas_, ↓TL.ss_nil_, ↓TL.ss_cons_, ↓TL.o_dc1, ↓TL.s_ret_dc1, ↓TL.o_dc2, ↓TL.s_ret_dc2, ↓TL.o_emp, ↓TL.s_ret_emp, ↓TL.o_rvs, ↓TL.s_ret_rvs, ↓TL.o_met, ↓TL.s_ret_met, ↓TL.o_lit, ↓TL.s_ret_lit, ↓TL.o_glb, ↓TL.s_ret_glb, ↓TL.o_tup, ↓TL.s_ret_tup, ↓TL.o_lst, ↓TL.s_ret_lst, ↓TL.o_bin, ↓TL.s_ret_bin, ↓TL.o_neg, ↓TL.s_ret_neg, ↓TL.o_nt, ↓TL.s_ret_nt, ↓TL.o_cmp, ↓TL.s_ret_cmp, ↓TL.o_chn, ↓TL.s_ret_chn, ↓TL.o_and, ↓TL.s_ret_and, ↓TL.o_or, ↓TL.s_ret_or, ↓TL.o_ife, ↓TL.s_ret_ife, ↓TL.o_idx, ↓TL.s_ret_idx, ↓TL.o_slc, ↓TL.s_ret_slc, ↓TL.o_call, ↓TL.s_ret_call, ↓TL.o_pcall, ↓TL.s_ret_pcall, ↓TL.o_bl1, ↓TL.s_ret_bl1, ↓TL.o_bl2, ↓TL.s_ret_bl2, ↓TL.o_isi, ↓TL.s_ret_isi, ↓TL.o_pop, ↓TL.s_ret_pop, ↓TL.o_lc, ↓TL.s_ret_lc, ↓TL.o_lc2, ↓TL.s_ret_lc2, ↓TL.o_var_, ↓TL.s_retv_, ↓TL.l_val, ↓TL.l_slot, ↓TL.tg_fz, ↓TL.tg_own, ↓TL.tg_tup, ↓TL.tg_nil, ↓TL.tg_cons, ↓TL.wv_fz, ↓TL.wv_own, ↓TL.wv_s, ↓TL.lk_fz, ↓TL.lk_own, ↓TL.lk_bor, ↓TL.lk_s, ↓TL.cs_s, ↓TL.cs_un, ↓TL.cs_fz, ↓TL.cs_own, ↓TL.hd_own, ↓TL.hd_bor, ↓TL.hd_s, ↓TL.sh_own, ↓TL.sh_bor, ↓TL.sh_s, ↓TL.st_0, ↓TL.st_s, ↓TL.fr_nil, ↓TL.fr_cons, ↓TL.wp_nil, ↓TL.wp_cons, ↓TL.bk_nil, ↓TL.bk_cons, ↓TL.b_addI, ↓TL.b_subI, ↓TL.b_mulI, ↓TL.b_divI, ↓TL.b_modI, ↓TL.b_powI, ↓TL.b_addS, ↓TL.b_addT, ↓TL.b_addL, ↓TL.b_mulL, ↓TL.b_mulT, ↓TL.a_add, ↓TL.a_sub, ↓TL.a_mul, ↓TL.c_Eq_int, ↓TL.c_Eq_bool, ↓TL.c_Eq_str, ↓TL.c_Eq_tuple, ↓TL.c_Eq_list, ↓TL.c_NotEq_int, ↓TL.c_NotEq_bool, ↓TL.c_NotEq_str, ↓TL.c_NotEq_tuple, ↓TL.c_NotEq_list, ↓TL.c_Lt, ↓TL.c_LtE, ↓TL.c_Gt, ↓TL.c_GtE, ↓TL.c_LtE_b, ↓TL.c_Is_b, ↓TL.c_Is_n, ↓TL.c_IsNot_b, ↓TL.c_IsNot_n, ↓TL.c_In_tuple, ↓TL.c_In_list, ↓TL.c_NotIn_tuple, ↓TL.c_NotIn_list, ↓TL.t_non, ↓TL.t_bl, ↓TL.t_int, ↓TL.t_str, ↓TL.t_lst, ↓TL.t_tup, ↓TL.i_lst, ↓TL.i_tup, ↓TL.sl_lst, ↓TL.sl_tup, ↓TL.as_i, ↓TL.as_b, ↓TL.it_l, ↓TL.it_t, ↓TL.ls_l, ↓TL.zp_n, ↓TL.zp_f, ↓TL.zp_s, ↓TL.rv_l, ↓TL.rv_t, ↓TL.m_sw, ↓TL.m_ew, ↓TL.m_ix, ↓TL.m_ixd, ↓TL.tm_ixd, ↓TL.tm_sw, ↓TL.tm_ew, ↓TL.tm_ix, ↓TL.c_Lt_t, ↓TL.f_lenL, ↓TL.f_lenT, ↓TL.f_lenS, ↓TL.f_abs, ↓TL.f_min, ↓TL.f_max, ↓TL.f_sum, ↓TL.f_all, ↓TL.f_any, ↓TL.f_sort, ↓TL.f_ssetL, ↓TL.f_ssetT, ↓TL.f_trng, ↓TL.f_denL, ↓TL.f_denT, ↓TL.f_tupL, ↓TL.f_tupT, ↓TL.f_lstL, ↓TL.f_lstT, ↓TL.f_intI, ↓TL.f_intB, ↓TL.f_str, ↓TL.g_min, ↓TL.g_max, ↓TL.rd_fz, ↓TL.rd_own, ↓TL.rs_fz, ↓TL.rs_own, ↓TL.ou_b, ↓TL.at_l0, ↓TL.at_l1, ↓TL.at_l2, ↓TL.at_l3, ↓TL.at_l4, ↓TL.at_l5, ↓TL.at_l6, ↓TL.at_l7, ↓TL.ix_l0, ↓TL.ix_l1, ↓TL.ix_l2, ↓TL.ix_l3, ↓TL.ix_l4, ↓TL.ix_l5, ↓TL.ix_l6, ↓TL.ix_l7, ↓TL.ix_l8, ↓TL.ix_l9, ↓TL.ix_l10, ↓TL.ix_l11, ↓TL.ix_l12, TL.isStr, TL.flatD, TL.inD, TL.isiD, TL.tyD, TL.isNone, TL.eqv_int, TL.eqv_bool, TL.eqv_str, TL.sh_int, TL.sh_bool, TL.sz_le, TL.sz_lt, TL.Sl.held, List.map_cons, List.map_nil, List.cons_append, List.nil_append, List.append_nil, List.length_cons, List.length_nil, List.length_map, List.length_set, List.set_cons_zero, List.set_cons_succ, Nat.reduceLT, List.all_cons, List.all_nil, List.any_cons, List.any_nil, List.zip_cons_cons, List.zip_nil_left, List.zip_nil_right, List.foldl_cons, List.foldl_nil, List.getD_cons_zero, List.getD_cons_succ, List.mem_cons, List.not_mem_nil, forall_eq_or_imp, forall_eq, or_false, false_or, true_or, or_true, true_and, and_true, false_and, and_false, false_implies, implies_true, forall_const, ↓reduceIte, if_true, if_false, Bool.false_eq_true, Bool.true_and, Bool.and_true, Bool.false_and, Bool.and_false, Bool.or_false, Bool.false_or, Bool.or_true, Bool.true_or, Bool.not_true, Bool.not_false, Bool.and_eq_true, Bool.or_eq_true, Bool.not_eq_true', decide_eq_true_eq, decide_eq_false_iff_not, ne_eq, not_false_eq_true, not_true_eq_false, reduceCtorEq, decide_true, decide_false, Nat.reduceAdd, Nat.reduceLeDiff, Nat.reduceEqDiff, TL.all_isInt, TL.map_intOf, TL.all_isBool, TL.map_boolOf, TL.take_ints, TL.drop_ints, List.take_succ_cons, List.take_zero, List.drop_succ_cons, List.drop_zero, List.take_nil, List.drop_nil, TL.fmod_n, TL.fdiv_n, TL.cut_to, TL.cut_from, TL.cut_mid, Int.reduceEq, Int.reduceNe, Int.reduceNeg, Int.reduceAdd, Int.reduceMul, Int.reduceSub, Int.reduceLT, Int.reduceLE, Int.reduceGT, Int.reduceGE, Int.reducePow, Int.reduceToNat, Int.add_zero, Int.zero_add, String.reduceEq, String.reduceBEq]
      rw [pL_reverse, ← e]
      have em : (.tuple [.tuple (b.ds.map .int), frD o.rate, .int o.m, .str o.word, .tuple (pL b.bs.reverse)] : D) = (mix b o).d := rfl
      rw [em]
      have mk := mix_ok h.ok ook
      have okx : ∀ d ∈ [b.d, (mix b o).d, b.d], ∃ x : Bond, d = x.d ∧ x.Ok ∧ day < x.ds.getD x.bs.length 0 := fun d hd => by
        simp only [List.mem_cons, List.not_mem_nil, or_false] at hd
        rcases hd with rfl | rfl | rfl
        · exact ⟨b, rfl, h.ok, hday⟩
        · exact ⟨mix b o, rfl, mk, by show day < b.ds.getD b.bs.reverse.length 0; rw [List.length_reverse]; exact hday⟩
        · exact ⟨b, rfl, h.ok, hday⟩
      refine for_inv (fun j ρ => ∃ s9, nb s9 = true ∧ ρ = [.fz (.list (ns.map .int)), .own pd, s2, .fz b.d, .own (ys.map .int), .fz (.int day), .fz (.tuple (b.ds.map .int)), .fz (.str (PyData.shown b.d)), .fz (mix b o).d, s9, .un]) ⟨s9, h9, rfl⟩ (fun j d ρ m1 m4 hd hs k2 k5 => ?_) (fun ρ hs => ?_)
      · obtain ⟨s9, h9, rfl⟩ := hs
        obtain ⟨x, rfl, xok, xd⟩ := okx d (List.mem_of_getElem? hd)
        simp only [cs_nb h9, ↓TL.x_var, ↓TL.x_lit, ↓TL.x_glb, ↓TL.x_tup, ↓TL.x_lst, ↓TL.x_emp, ↓TL.x_rvs, ↓TL.x_met, ↓TL.x_dc1, ↓TL.x_dc2, ↓TL.x_bin, ↓TL.x_neg, ↓TL.x_nt, ↓TL.x_cmp, ↓TL.x_chn, ↓TL.x_and, ↓TL.x_or, ↓TL.x_ife, ↓TL.x_idx, ↓TL.x_slc, ↓TL.x_call, ↓TL.x_pcall, ↓TL.x_bl1, ↓TL.x_bl2, ↓TL.x_isi, ↓TL.x_pop, ↓TL.x_lc, ↓TL.x_lc2, ↓TL.x_nil, ↓TL.x_cons, ↓TL.x_no, ↓TL.x_so, ↓TL.x_tof, ↓TL.x_tand, ↓TL.x_tor, ↓TL.x_tnt, ↓TL.x_tite, ↓TL.x_ctno, ↓TL.x_ctso, ↓TL.x_iof, ↓TL.x_irng1, ↓TL.x_irng2, ↓TL.x_irng3, ↓TL.x_ienum, ↓TL.x_izip, ↓TL.x_irev, ↓TL.s_asg_, ↓TL.s_par_, ↓TL.s_sub_, ↓TL.s_aug_, ↓TL.s_swp_, ↓TL.s_augs_, ↓TL.s_subW, ↓TL.s_exp_, ↓TL.s_app_, ↓TL.s_ite_, ↓TL.s_for_, ↓TL.s_whl_, ↓TL.s_retN_, ↓TL.s_brk_, ↓TL.s_cnt_, ↓TL.s_pas_, ↓TL.ss_nil_, ↓TL.ss_cons_, ↓TL.o_dc1, ↓TL.s_ret_dc1, ↓TL.o_dc2, ↓TL.s_ret_dc2, ↓TL.o_emp, ↓TL.s_ret_emp, ↓TL.o_rvs, ↓TL.s_ret_rvs, ↓TL.o_met, ↓TL.s_ret_met, ↓TL.o_lit, ↓TL.s_ret_lit, ↓TL.o_glb, ↓TL.s_ret_glb, ↓TL.o_tup, ↓TL.s_ret_tup, ↓TL.o_lst, ↓TL.s_ret_lst, ↓TL.o_bin, ↓TL.s_ret_bin, ↓TL.o_neg, ↓TL.s_ret_neg, ↓TL.o_nt, ↓TL.s_ret_nt, ↓TL.o_cmp, ↓TL.s_ret_cmp, ↓TL.o_chn, ↓TL.s_ret_chn, ↓TL.o_and, ↓TL.s_ret_and, ↓TL.o_or, ↓TL.s_ret_or, ↓TL.o_ife, ↓TL.s_ret_ife, ↓TL.o_idx, ↓TL.s_ret_idx, ↓TL.o_slc, ↓TL.s_ret_slc, ↓TL.o_call, ↓TL.s_ret_call, ↓TL.o_pcall, ↓TL.s_ret_pcall, ↓TL.o_bl1, ↓TL.s_ret_bl1, ↓TL.o_bl2, ↓TL.s_ret_bl2, ↓TL.o_isi, ↓TL.s_ret_isi, ↓TL.o_pop, ↓TL.s_ret_pop, ↓TL.o_lc, ↓TL.s_ret_lc, ↓TL.o_lc2, ↓TL.s_ret_lc2, ↓TL.o_var_, ↓TL.s_retv_, ↓TL.l_val, ↓TL.l_slot, ↓TL.tg_fz, ↓TL.tg_own, ↓TL.tg_tup, ↓TL.tg_nil, ↓TL.tg_cons, ↓TL.wv_fz, ↓TL.wv_own, ↓TL.wv_s, ↓TL.lk_fz, ↓TL.lk_own, ↓TL.lk_bor, ↓TL.lk_s, ↓TL.cs_s, ↓TL.cs_un, ↓TL.cs_fz, ↓TL.cs_own, ↓TL.hd_own, ↓TL.hd_bor, ↓TL.hd_s, ↓TL.sh_own, ↓TL.sh_bor, ↓TL.sh_s, ↓TL.st_0, ↓TL.st_s, ↓TL.fr_nil, ↓TL.fr_cons, ↓TL.wp_nil, ↓TL.wp_cons, ↓TL.bk_nil, ↓TL.bk_cons, ↓TL.b_addI, ↓TL.b_subI, ↓TL.b_mulI, ↓TL.b_divI, ↓TL.b_modI, ↓TL.b_powI, ↓TL.b_addS, ↓TL.b_addT, ↓TL.b_addL, ↓TL.b_mulL, ↓TL.b_mulT, ↓TL.a_add, ↓TL.a_sub, ↓TL.a_mul, ↓TL.c_Eq_int, ↓TL.c_Eq_bool, ↓TL.c_Eq_str, ↓TL.c_Eq_tuple, ↓TL.c_Eq_list, ↓TL.c_NotEq_int, ↓TL.c_NotEq_bool, ↓TL.c_NotEq_str, ↓TL.c_NotEq_tuple, ↓TL.c_NotEq_list, ↓TL.c_Lt, ↓TL.c_LtE, ↓TL.c_Gt, ↓TL.c_GtE, ↓TL.c_LtE_b, ↓TL.c_Is_b, ↓TL.c_Is_n, ↓TL.c_IsNot_b, ↓TL.c_IsNot_n, ↓TL.c_In_tuple, ↓TL.c_In_list, ↓TL.c_NotIn_tuple, ↓TL.c_NotIn_list, ↓TL.t_non, ↓TL.t_bl, ↓TL.t_int, ↓TL.t_str, ↓TL.t_lst, ↓TL.t_tup, ↓TL.i_lst, ↓TL.i_tup, ↓TL.sl_lst, ↓TL.sl_tup, ↓TL.as_i, ↓TL.as_b, ↓TL.it_l, ↓TL.it_t, ↓TL.ls_l, ↓TL.zp_n, ↓TL.zp_f, ↓TL.zp_s, ↓TL.rv_l, ↓TL.rv_t, ↓TL.m_sw, ↓TL.m_ew, ↓TL.m_ix, ↓TL.m_ixd, ↓TL.tm_ixd, ↓TL.tm_sw, ↓TL.tm_ew, ↓TL.tm_ix, ↓TL.c_Lt_t, ↓TL.f_lenL, ↓TL.f_lenT, ↓TL.f_lenS, ↓TL.f_abs, ↓TL.f_min, ↓TL.f_max, ↓TL.f_sum, ↓TL.f_all, ↓TL.f_any, ↓TL.f_sort, ↓TL.f_ssetL, ↓TL.f_ssetT, ↓TL.f_trng, ↓TL.f_denL, ↓TL.f_denT, ↓TL.f_tupL, ↓TL.f_tupT, ↓TL.f_lstL, ↓TL.f_lstT, ↓TL.f_intI, ↓TL.f_intB, ↓TL.f_str, ↓TL.g_min, ↓TL.g_max, ↓TL.rd_fz, ↓TL.rd_own, ↓TL.rs_fz, ↓TL.rs_own, ↓TL.ou_b, ↓TL.at_l0, ↓TL.at_l1, ↓TL.at_l2, ↓TL.at_l3, ↓TL.at_l4, ↓TL.at_l5, ↓TL.at_l6, ↓TL.at_l7, ↓TL.ix_l0, ↓TL.ix_l1, ↓TL.ix_l2, ↓TL.ix_l3, ↓TL.ix_l4, ↓TL.ix_l5, ↓TL.ix_l6, ↓TL.ix_l7, ↓TL.ix_l8, ↓TL.ix_l9, ↓TL.ix_l10, ↓TL.ix_l11, ↓TL.ix_l12, TL.isStr, TL.flatD, TL.inD, TL.isiD, TL.tyD, TL.isNone, TL.eqv_int, TL.eqv_bool, TL.eqv_str, TL.sh_int, TL.sh_bool, TL.sz_le, TL.sz_lt, TL.Sl.held, List.map_cons, List.map_nil, List.cons_append, List.nil_append, List.append_nil, List.length_cons, List.length_nil, List.length_map, List.length_set, List.set_cons_zero, List.set_cons_succ, Nat.reduceLT, List.all_cons, List.all_nil, List.any_cons, List.any_nil, List.zip_cons_cons, List.zip_nil_left, List.zip_nil_right, List.foldl_cons, List.foldl_nil, List.getD_cons_zero, List.getD_cons_succ, List.mem_cons, List.not_mem_nil, forall_eq_or_imp, forall_eq, or_false, false_or, true_or, or_true, true_and, and_true, false_and, and_false, false_implies, implies_true, forall_const, ↓reduceIte, if_true, if_false, Bool.false_eq_true, Bool.true_and, Bool.and_true, Bool.false_and, Bool.and_false, Bool.or_false, Bool.false_or, Bool.or_true, Bool.true_or, Bool.not_true, Bool.not_false, Bool.and_eq_true, Bool.or_eq_true, Bool.not_eq_true', decide_eq_true_eq, decide_eq_false_iff_not, ne_eq, not_false_eq_true, not_true_eq_false, reduceCtorEq, decide_true, decide_false, Nat.reduceAdd, Nat.reduceLeDiff, Nat.reduceEqDiff, TL.all_isInt, TL.map_intOf, TL.all_isBool, TL.map_boolOf, TL.take_ints, TL.drop_ints, List.take_succ_cons, List.take_zero, List.drop_succ_cons, List.drop_zero, List.take_nil, List.drop_nil, TL.fmod_n, TL.fdiv_n, TL.cut_to, TL.cut_from, TL.cut_mid, Int.reduceEq, Int.reduceNe, Int.reduceNeg, Int.reduceAdd, Int.reduceMul, Int.reduceSub, Int.reduceLT, Int.reduceLE, Int.reduceGT, Int.reduceGE, Int.reducePow, Int.reduceToNat, Int.add_zero, Int.zero_add, String.reduceEq, String.reduceBEq]
        refine row_of_ok 30 x xok day _ ?_
        walk_at "S"
        refine law_row_of_ok 30 x xok day xd _ ?_
        walk_at "S"
        refine same_ok 34 5 _ (same_row xok day) _ ?_
        walk_at "S"
        refine ⟨rp.2.1, rp.2.2.1, rp.2.2.2, ?_⟩
        walk_at "S"
        exact k2 _ ⟨_, rfl, rfl⟩
      · obtain ⟨s9, h9, rfl⟩ := hs
        exact k1 _ ⟨pd, _, _, _, hp.mono (by omega), rfl, rfl, h9, rfl⟩
    · obtain ⟨pd, s5, s8, s9, hp, h5, h8, h9, rfl⟩ := hs
      rw [List.length_map, lz] at hp
      exact P _ ⟨pd, _, _, _, _, _, _, _, _, rfl, hp.mono (by omega), h2, rfl, rfl, h5, rfl, rfl, h8, h9⟩
theorem law_ok (ns : List Int) (h : ns.length ≤ 63) (hb : ∀ z ∈ ns, Builtin.Int.intBits z ≤ 1048576) : run tb.G pr 40 "law" [.list (ns.map .int)] fun r _ => r = .fz (.bool true) := by
  show run tb.G pr (39 + 1) "law" _ _
  rw [e_law]; unfold b_law
  walk_at "S"
  refine open_ok 38 ns _ h fun pd hp => ?_
  walk_at "S"
  refine ⟨⟨by decide, by decide⟩, ?_⟩
  refine for_inv (fun t ρ => T0 ns (4000 * t) ρ) ⟨pd, .un, .un, .un, .un, .un, .un, .un, .un, rfl, hp.mono (by omega), rfl, rfl, rfl, rfl, rfl, rfl, rfl, rfl⟩ (fun t d ρ n1 n4 hd hp k1 k4 => ?_) (fun ρ hp => ?_)
  · obtain ⟨pd, s2, s3, s4, s5, s6, s7, s8, s9, rfl, hp, h2, r⟩ := hp
    obtain ⟨rfl, hi⟩ := rng_get hd
    rw [tg_fz, cs_s, cs_s, cs_nb h2, true_and, st_s, st_s, st_0]
    have all : ∀ n3 ρ, T0 ns (4000 * t) ρ → TL.wpSs tb.G (run tb.G pr 39) bd ρ ⟨n1, fun r _ => r = .fz (.bool true), n3, n4⟩ := fun n3 ρ h0 => by
      rw [split_ok 2]
      refine k18_a ns (4000 * t) (by omega) _ _ _ _ _ h0 fun ρ' b hb h1 => ?_
      have pc : Piece tb.G (run tb.G pr 39) (dropS 2 bd) (T1 ns b (4000 * t + 201)) (T0 ns (4000 * t + 201 + 3 + 3000)) No :=
        .seq 1 (k18_c ns b hb _ (by omega)) (k18_d ns b hb _ (by omega))
      exact pc _ _ _ _ _ h1 (fun ρ' ⟨pd, s2, s3, s4, s5, s6, s7, s8, s9, e, hp, r⟩ => k1 _ ⟨pd, s2, s3, s4, s5, s6, s7, s8, s9, e, hp.mono (by omega), r⟩) fun ρ' hr => hr.elim
    exact all _ _ ⟨pd, _, s3, s4, s5, s6, s7, s8, s9, rfl, hp, rfl, r⟩
  · obtain ⟨pd, s2, s3, s4, s5, s6, s7, s8, s9, rfl, hp, r⟩ := hp
    walk_at "S"
end Pr
end
section
open PySem PySem.W PyProof.Rows
set_option maxHeartbeats 0 in
theorem PySem.Challenge.cw_bondroots_k18_rows_of_bonds_holds : PySem.Challenge.rw_bondroots_k18_rows_of_bonds.Holds := by
  w_on; o_law; k_head; (case hw => w_witness2)
  k_fill
  refine TL.walk_end (l := PySem.Challenge.rw_bondroots_k18_rows_of_bonds) (n := 63) (k := 40) (T := Pr.tb) (tbl := Pr.pr) (f := "law") (cd := Pr.d_law) rfl (by decide) rfl ⟨rfl, by decide, by decide⟩ (fun w h Y => PySem.W.kIn_of Y) rfl rfl rfl rfl (by decide +kernel) ?top Pr.law_ok
  case top =>
    intro w mg h KX G
    refine TL.top_of KX G Pr.looked ?fs ?ns ?cs
    case fs =>
      refine ⟨?_, ?_, ?_, ?_, ?_, ?_, ?_, ?_, ?_, ?_, ?_, ?_, ?_, ?_, ?_, ?_, ?_, ?_, ?_, ?_, ?_, ?_, ?_, ?_, ?_, ?_, ?_, ?_, ?_, ?_, ?_, ?_, ?_, ?_, ?_, ?_, ?_, ?_, ?_, ?_, True.intro⟩ <;> (refine' TL.fnk_mk ?a ?l ?c ?k; (case a => k_is); (case l => k_is); (case c => k_is); (case k => k_is))
    case ns => refine ⟨?_, ?_, ?_, ?_, ?_, ?_, ?_, ?_, ?_, ?_, ?_, ?_, ?_, ?_, ?_, ?_, ?_, ?_, ?_, ?_, ?_, True.intro⟩ <;> k_is
    case cs =>
      refine ⟨?u0, ?u1, ?u2, ?u3, ?u4, ?u5, True.intro⟩
      case u0 => (refine' TL.consk_str ?m0; (case m0 => k_is))
      case u1 => (refine' TL.consk_int ?m1; (case m1 => k_is))
      case u2 => (refine' TL.consk_int ?m2; (case m2 => k_is))
      case u3 =>
        refine' TL.consk_ref ?n3 ?k3
        case n3 => k_is
        case k3 => repeat' (first | exact .non | exact .bl _ | exact .int _ _ | exact .str _ _ | exact .nil | refine .cons ?_ ?_ | (refine' TL.KV.tup ?l ?b ?c ?d ?_; (case l => k_is); (case b => rfl); (case c => rfl); (case d => decide)) | (refine' TL.KV.lst ?l ?d ?_; (case l => k_is); (case d => decide)))
      case u4 =>
        refine' TL.consk_ref ?n4 ?k4
        case n4 => k_is
        case k4 => repeat' (first | exact .non | exact .bl _ | exact .int _ _ | exact .str _ _ | exact .nil | refine .cons ?_ ?_ | (refine' TL.KV.tup ?l ?b ?c ?d ?_; (case l => k_is); (case b => rfl); (case c => rfl); (case d => decide)) | (refine' TL.KV.lst ?l ?d ?_; (case l => k_is); (case d => decide)))
      case u5 =>
        refine' TL.consk_ref ?n5 ?k5
        case n5 => k_is
        case k5 => repeat' (first | exact .non | exact .bl _ | exact .int _ _ | exact .str _ _ | exact .nil | refine .cons ?_ ?_ | (refine' TL.KV.tup ?l ?b ?c ?d ?_; (case l => k_is); (case b => rfl); (case c => rfl); (case d => decide)) | (refine' TL.KV.lst ?l ?d ?_; (case l => k_is); (case d => decide)))
end
