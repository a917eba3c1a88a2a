import PyProof.Rows.All
import HandS.Zip
import HandS.Rev
import HandS.RevTup
import KE.GoesZip
import KE.KRevIter
import KE.GoesMore
import KE.KTurns
import HandS.Conv
import KE.KDictList
import PyProof.MinMaxWalk
import PyProof.WalkInts
import PyProof.Rows.CallKwBuiltin
import HandS.SortKw
import HandS.List
import KE.KDictZip
import Wide.All
import OpenK.AllK
import Wide.FinOn
import HandS.ForMost
import HandS.Wide
import HandS.IsInst
import HandS.TupAny
import HandS.Walk
import HandS.Deep
import HandS.Flow
import HandS.Style
import PyProof.ReprRoads
import HandS.More
import HandS.EndBits
import PySem.Challenge.RW_skylanes_k34_the_bounds_ends
set_option Elab.async false
set_option linter.all false
set_option maxRecDepth 100000
set_option maxHeartbeats 4000000
set_option exponentiation.threshold 3000
/-! SkZ: zip of a list or a tuple with a list, a tuple, or a tuple turned about -/
namespace Sk
open PySem PySem.Spec PyProof.Rows L2

/-- what an inner iterator goes over -/
inductive Kd | lst | tup | rvt
def SqK (k : Kd) (K : PySem.W.Frag) (H : Hp) (a : Addr) (xs : List V) : Prop := match k with
  | .lst => SqL K H a xs
  | .tup => SqT K H a xs
  | .rvt => SqT K H a xs.reverse
def HasK (k : Kd) (h : Heap) (a : Addr) (its : Array Value) : Prop := match k with
  | .lst => h.IsList a its
  | .tup => h.IsTuple a its
  | .rvt => h.IsTuple a its.reverse
def ItK (k : Kd) (h : Heap) (it a : Addr) (i n : Nat) : Prop := match k with
  | .lst => h.IsListIter it a i
  | .tup => h.IsTupleIter it a i
  | .rvt => RT.IsRt h it a ((n : Int) - 1 - (i : Int))
def itObj (k : Kd) (a : Addr) (n : Nat) : Obj := match k with
  | .lst => { cls := .type "list_iterator", data := .fields #[.ref a, .int 0 0] }
  | .tup => { cls := .type "tuple_iterator", data := .fields #[.ref a, .int 0 0] }
  | .rvt => RT.rtObj a ((n : Int) - 1)
section
variable {X : Cx} {pins : List (Addr × Obj)} {σ : L2.St} {H : Hp} {s : Shared}
theorem inv_seqK {k : Kd} (I : Inv X pins σ H s) {a : Addr} {xs : List V} (h : SqK k X.K H a xs) : ∃ its : List Value, Vals xs its ∧ HasK k s.heap a its.toArray ∧ xs.length ≤ sizeLine := by
  cases k with
  | lst =>
    obtain ⟨its, rv, p, hz⟩ := I.list h
    exact ⟨its, rv, p.isList, hz⟩
  | tup =>
    obtain ⟨its, rv, p, hz⟩ := I.tuple h
    exact ⟨its, rv, p, hz⟩
  | rvt =>
    obtain ⟨its, rv, p, hz⟩ := I.tuple h
    refine ⟨its.reverse, by simpa using rv.reverse, ?_, by simpa using hz⟩
    have p' : s.heap.IsTuple a its.toArray := p
    show s.heap.IsTuple a its.reverse.toArray.reverse
    simpa using p'
theorem seqK_inj {k : Kd} (I : Inv X pins σ H s) {a : Addr} {xs ys : List V} (h : SqK k X.K H a xs) (g : SqK k X.K H a ys) : xs = ys := by
  cases k with
  | lst => exact I.list_inj h g
  | tup => exact I.tuple_inj h g
  | rvt => simpa using I.tuple_inj h g
end

section
variable {prog : Program} {w : World} {A : Around} {E : Value → Shared → Prop} {s : Shared}
theorem nextOf_rt_item {it t : Addr} {i : Nat} {items : Array Value} {x : Value} {Q : Value → Shared → Prop} (hit : RT.IsRt s.heap it t (i : Int)) (ht : s.heap.IsTuple t items) (hx : items[i]? = some x) (hsz : items.size ≤ sizeLine)
    (hQ : ∀ h', RT.IsRt h' it t ((i : Int) - 1) → Heap.SameBut it s.heap h' → Q x { s with heap := h', toks := s.toks + 1 }) : wpAny (model prog w) A (Builtin.SmallTypes.nextOf (.ref it)) Q E s := by
  obtain ⟨o, ho, hc, hd⟩ := id hit
  have hi : i < items.size := (Array.getElem?_eq_some_iff.mp hx).1
  have hT : s.TypeIs (.ref t) "tuple" := RT.IsTup.typeOf' ht
  rw [sizeLine_eq] at hsz
  unfold Builtin.SmallTypes.nextOf
  refine wpAny_bind (wpAny_callSpecial?_slot (name := Str.ofString "__next__") hit.typeIs RT.slot_rt_next
    (wpAny_call_entry RT.slot_rt_next hit.typeIs RT.entry_rt_next ?_ (RT.args_rt_next _)))
  unfold Builtin.«reversed.__next__»
  refine wpAny_bind (wpAny_of_eq (a := (Value.ref it, [])) rfl ?_)
  try dsimp only
  refine wpAny_bind (wpAny_field ho hd (x := .ref t) rfl ?_)
  try dsimp only
  refine wpAny_bind (wpAny_field ho hd (x := rawInt (i : Int)) rfl ?_)
  show wpAny _ _ (if (i : Int) < 0 then _ else _) _ _ s
  rw [if_neg (by omega)]
  try dsimp only
  refine wpAny_bind (wpAny_specialOf hT RT.get_tuple ?_)
  try dsimp only
  try rw [if_neg (by decide)]
  try dsimp only
  refine wpAny_bind (wpAny_mkInt ?_)
  refine wpAny_bind (wpAny_attempt ?_)
  have fin : seqIndex? (i : Int) items.size = some i := seqIndex_of (by omega) (by omega)
  refine PyProof.Rows.getItem_tuple (s := { s with toks := s.toks + 1 }) ht (by omega) (by omega) fin hx ?_
  try dsimp only
  refine wpAny_bind (wpAny_field (s := { s with toks := s.toks + 1 }) ho hd (x := rawInt (i : Int)) rfl ?_)
  try dsimp only
  refine wpAny_bind (wpAny_setField (s := { s with toks := s.toks + 1 }) ho hd (by simp) ?_)
  first
  | refine wpAny_pure ⟨x, rfl, wpAny_pure (hQ _ ?_ (Heap.SameBut.update ..))⟩
  | refine wpAny_bind (wpAny_pure (wpAny_pure ⟨x, rfl, wpAny_pure (hQ _ ?_ (Heap.SameBut.update ..))⟩))
  exact ⟨_, Heap.get?_update_self _ ho (Obj.isFreed_of_fields (Obj.data_mapFields hd _)), (Obj.cls_mapFields ..).trans hc, by
    rw [Obj.data_mapFields hd]; simp⟩
theorem nextOf_rt_end {it t : Addr} {Q : Value → Shared → Prop} (hh : A.handled = none) (hit : RT.IsRt s.heap it t (-1))
    (hQ : ∀ h' e, Heap.ExtBut it s.heap h' → (∃ o, h'.get? e = some o ∧ o.cls = .type "StopIteration") → E (.ref e) { s with heap := h' }) : wpAny (model prog w) A (Builtin.SmallTypes.nextOf (.ref it)) Q E s := by
  obtain ⟨o, ho, hc, hd⟩ := id hit
  unfold Builtin.SmallTypes.nextOf
  refine wpAny_bind (wpAny_callSpecial?_slot (name := Str.ofString "__next__") hit.typeIs RT.slot_rt_next
    (wpAny_call_entry RT.slot_rt_next hit.typeIs RT.entry_rt_next ?_ (RT.args_rt_next _)))
  unfold Builtin.«reversed.__next__»
  refine wpAny_bind (wpAny_of_eq (a := (Value.ref it, [])) rfl ?_)
  try dsimp only
  refine wpAny_bind (wpAny_field ho hd (x := .ref t) rfl ?_)
  try dsimp only
  refine wpAny_bind (wpAny_field ho hd (x := rawInt (-1)) rfl ?_)
  show wpAny _ _ (if (-1 : Int) < 0 then _ else _) _ _ s
  rw [if_pos (by decide)]
  try dsimp only
  refine wpAny_bind (wpAny_rule ?_)
  refine wpAny_bind ?_
  wp_delta
  refine wpAny_bind (wpAny_setField ho hd (by simp) ?_)
  have ho2 := Heap.get?_update_self (Obj.mapFields (·.setIfInBounds 1 (rawInt (-1)))) ho (Obj.isFreed_of_fields (Obj.data_mapFields hd _))
  refine wpAny_setField (s := { s with heap := s.heap.update it (Obj.mapFields (·.setIfInBounds 1 (rawInt (-1)))) }) ho2 (Obj.data_mapFields hd _) (by simp) ?_
  try dsimp only
  first
  | show wpAny _ _ (newExc (.type "StopIteration") [] >>= _) _ _ _
  | (refine wpAny_bind ?_; show wpAny _ _ (newExc (.type "StopIteration") [] >>= _) _ _ _)
  | (refine wpAny_bind ?_; wp_delta; show wpAny _ _ (newExc (.type "StopIteration") [] >>= _) _ _ _)
  refine wpAny_bind ?_
  simp only [newExc, newTuple]
  refine wpAny_bind (wpAny_newObj_type ?_ (by size_fits))
  refine wpAny_bind (m := firstArgMember _ _) (wpAny_of_eq (a := Value.none) (by first | rfl | (simp only [firstArgMember]; rfl)) ?_)
  refine wpAny_newObj_type ?_ (by size_fits)
  simp only [raiseNew]
  refine wpAny_bind (wpAny_handled ?_)
  first | rw [show A.in1.handled = none from hh] | rw [hh]
  refine wpAny_bind (wpAny_pure (wpAny_throw ?_))
  refine hQ _ _ ?_ ⟨_, Heap.get?_push_size _ rfl, rfl⟩
  refine ((?_ : Heap.ExtBut it s.heap _).push _).push _
  exact fun b ob hb e => (Heap.get?_update_other _ _ (Ne.symm hb)).trans ((Heap.get?_update_other _ _ (Ne.symm hb)).trans e)
theorem drawsK (k : Kd) (hh : A.handled = none) (it a : Addr) (hne : a ≠ it) (items : Array Value) (hsz : items.size ≤ sizeLine) :
    Draws prog w A it [it, a] items.size (fun i v => items[i]? = some v) (fun i h => i ≤ items.size ∧ ItK k h it a i items.size ∧ HasK k h a items) := by
  cases k with
  | lst =>
    have D := Draws.list (prog := prog) (w := w) hh it a hne items
    exact ⟨fun i h st => D.live i h st.2, fun i h h' st hk => ⟨st.1, D.frame i h h' st.2 hk⟩, fun i s Q E hi st hQ => D.item i s Q E hi st.2 fun x h' tk p st' sb => hQ x h' tk p ⟨hi, st'⟩ sb, fun s Q E st hE => D.done s Q E st.2 hE⟩
  | tup =>
    have D := Draws.tuple (prog := prog) (w := w) hh it a hne items
    exact ⟨fun i h st => D.live i h st.2, fun i h h' st hk => ⟨st.1, D.frame i h h' st.2 hk⟩, fun i s Q E hi st hQ => D.item i s Q E hi st.2 fun x h' tk p st' sb => hQ x h' tk p ⟨hi, st'⟩ sb, fun s Q E st hE => D.done s Q E st.2 hE⟩
  | rvt =>
    refine ⟨fun i h st => ?_, fun i h h' st hk => ⟨st.1, ?_, ?_⟩, fun i s Q E hi st hQ => ?_, fun s Q E st hE => ?_⟩
    · obtain ⟨o, ho, _⟩ := st.2.1
      exact ⟨o, ho⟩
    · exact RT.IsRt.at st.2.1 fun o e => hk it (by simp) o e
    · exact Heap.IsTuple.at (show h.IsTuple a items.reverse from st.2.2) fun o e => hk a (by simp) o e
    · have hit : RT.IsRt s.heap it a (((items.size - 1 - i : Nat) : Nat) : Int) := by
        have e : (items.size : Int) - 1 - (i : Int) = ((items.size - 1 - i : Nat) : Int) := by omega
        rw [← e]; exact st.2.1
      have ht : s.heap.IsTuple a items.reverse := st.2.2
      have hx : items.reverse[items.size - 1 - i]? = some items[i] := by
        rw [Array.getElem?_reverse (by omega)]
        rw [show items.size - 1 - (items.size - 1 - i) = i by omega]
        simp [hi]
      refine nextOf_rt_item hit ht hx (by simpa using hsz) fun h' hit' hs' => hQ _ h' _ (by simp [hi]) ⟨hi, ?_, ?_⟩ hs'
      · show RT.IsRt h' it a _
        have e : (items.size : Int) - 1 - ((i + 1 : Nat) : Int) = ((items.size - 1 - i : Nat) : Int) - 1 := by omega
        rw [e]; exact hit'
      · exact Heap.IsTuple.at ht fun o e => (hs'.2 a hne).trans e
    · have hit : RT.IsRt s.heap it a (-1) := by
        have e : (items.size : Int) - 1 - (items.size : Int) = -1 := by omega
        rw [← e]; exact st.2.1
      exact nextOf_rt_end hh hit fun h' e k1 k2 => hE h' e k1 k2
end

/-- the two sequences as they stand at each turn, the items in new pairs -/
def ItzK (K : PySem.W.Frag) (k1 k2 : Kd) (a b : Addr) (n1 n2 : Nat) : It :=
  ⟨fun i H => ∃ (xs ys : List V), SqK k1 K H a xs ∧ SqK k2 K H b ys ∧ xs.length = n1 ∧ ys.length = n2 ∧ i < n1 ∧ i < n2,
    fun i H v H' => ∃ T x y, v = .ref T ∧ H T = none ∧ H' = upd H T (.tup [x, y]) ∧ (∀ xs, SqK k1 K H a xs → xs[i]? = some x) ∧ ∀ ys, SqK k2 K H b ys → ys[i]? = some y,
    fun i H => ∃ xs ys : List V, SqK k1 K H a xs ∧ SqK k2 K H b ys ∧ xs.length = n1 ∧ ys.length = n2 ∧ i = min n1 n2⟩
theorem turn_zipK {P : Program} {w : World} {K : PySem.W.Frag} {elts : List Expr} {kk : Nat} {tpos : Pos} {k1 k2 : Kd} {a b z TI TO i1 i2 : Addr} {n1 n2 : Nat} (D : ZipSep2 z TI TO i1 i2 [i1, a] [i2, b]) (hai : a ≠ i1) (hbi : b ≠ i2) :
    Turn P w K (.Tuple elts kk tpos) (ItzK K k1 k2 a b n1 n2) [z, TI, TO, i1, i2] z (fun i h => IsZip h z TI TO .none ∧ IsPair h TI (.ref i1) (.ref i2) ∧ (∃ x y, IsPair h TO x y) ∧ ItK k1 h i1 a i n1 ∧ ItK k2 h i2 b i n2) := by
  have itObj? : ∀ {k : Kd} {h : Heap} {it a : Addr} {i n : Nat}, ItK k h it a i n → ∃ o, h.get? it = some o ∧ ∀ v, o.data ≠ .cell v := by
    intro k h it a i n st
    cases k with
    | lst => obtain ⟨o, e, _, d⟩ := st; exact ⟨o, e, fun v q => by rw [d] at q; cases q⟩
    | tup => obtain ⟨o, e, _, d⟩ := st; exact ⟨o, e, fun v q => by rw [d] at q; cases q⟩
    | rvt => obtain ⟨o, e, _, d⟩ := st; exact ⟨o, e, fun v q => by rw [d] at q; cases q⟩
  have itAt : ∀ {k : Kd} {h h' : Heap} {it a : Addr} {i n : Nat}, ItK k h it a i n → (∀ o, h.get? it = some o → h'.get? it = some o) → ItK k h' it a i n := by
    intro k h h' it a i n st hk
    cases k with
    | lst => exact Heap.IsListIter.at st hk
    | tup => exact Heap.IsTupleIter.at st hk
    | rvt => exact RT.IsRt.at st hk
  refine ⟨by simp, ?_, ?_, ?_, ?_, fun A i s Q E st h => wpAny_pyIter_zip st.1 h⟩
  · intro i h st c hc
    obtain ⟨hz, hTI, ⟨x, y, hTO⟩, h1, h2⟩ := st
    have e' : c = z ∨ c = TI ∨ c = TO ∨ c = i1 ∨ c = i2 := by simpa using hc
    rcases e' with q | q | q | q | q
    · rw [q]; exact ⟨_, hz, fun v q => nomatch q⟩
    · rw [q]; exact ⟨_, hTI, fun v q => nomatch q⟩
    · rw [q]; exact ⟨_, hTO, fun v q => nomatch q⟩
    · rw [q]; exact itObj? h1
    · rw [q]; exact itObj? h2
  · intro i h h' st k
    obtain ⟨hz, hTI, ⟨x, y, hTO⟩, h1, h2⟩ := st
    exact ⟨k z (by simp) _ hz, k TI (by simp) _ hTI, ⟨x, y, k TO (by simp) _ hTO⟩, itAt h1 fun o q => k i1 (by simp) o q, itAt h2 fun o q => k i2 (by simp) o q⟩
  · intro X hP hw hK hc i pins s σ H E I hf st hg
    subst hP hw hK
    obtain ⟨hz, hTI, ⟨x0, y0, hTO⟩, h1, h2⟩ := st
    obtain ⟨xs, ys, hqx, hqy, e1, e2, hi1, hi2⟩ := hg
    obtain ⟨its, rv, p, z1⟩ := inv_seqK I hqx
    obtain ⟨its2, rv2, p2, z2⟩ := inv_seqK I hqy
    have l1 : its.toArray.size = n1 := by rw [List.size_toArray, ← rv.length, e1]
    have l2 : its2.toArray.size = n2 := by rw [List.size_toArray, ← rv2.length, e2]
    have hx : xs[i]? = some xs[i] := List.getElem?_eq_getElem (by omega)
    have hy : ys[i]? = some ys[i] := List.getElem?_eq_getElem (by omega)
    obtain ⟨u, hu, ru⟩ := rv.get hx
    obtain ⟨u2, hu2, ru2⟩ := rv2.get hy
    have hzl : z < s.heap.objs.size := Heap.lt_size hz
    have hh : X.A.in1.handled = none := I.ok.hd hc
    have D1 := drawsK (prog := X.prog) (w := X.w) k1 hh i1 a hai its.toArray (by rw [l1, ← e1]; exact z1)
    have D2 := drawsK (prog := X.prog) (w := X.w) k2 hh i2 b hbi its2.toArray (by rw [l2, ← e2]; exact z2)
    refine wpAny_pyNext_zipD2_item (i := i) D D1 D2 hz hTI hTO ⟨by omega, by rw [l1]; exact h1, p⟩ ⟨by omega, by rw [l2]; exact h2, p2⟩ (by omega) (by omega) fun x1 x2 h' tk q1 q2 z' TO' st1' st2' hT hsz hk => ?_
    have eu : x1 = u := by
      have : its[i]? = some x1 := by simpa using q1
      exact Option.some.inj (this.symm.trans hu)
    have eu2 : x2 = u2 := by
      have : its2[i]? = some x2 := by simpa using q2
      exact Option.some.inj (this.symm.trans hu2)
    subst eu eu2
    have h1' : ItK k1 h' i1 a (i + 1) n1 := by rw [← l1]; exact st1'.2.1
    have h2' : ItK k2 h' i2 b (i + 1) n2 := by rw [← l2]; exact st2'.2.1
    refine ⟨_, rfl, wpAny_letOwnedTupleGo_zip (s := { s with heap := h', toks := tk }) z' fun h'' z'' sb => ?_⟩
    have hT2 : h''.get? s.heap.objs.size = some { cls := .type "tuple", data := .seq #[x1, x2] } := (sb.2 _ (Nat.ne_of_gt hzl)).trans hT
    have new : ObjOk X.prog X.w (upd H s.heap.objs.size (.tup [xs[i], ys[i]])) h'' s.heap.objs.size (.tup [xs[i], ys[i]]) :=
      ⟨by show 2 ≤ sizeLine; decide, [x1, x2], .cons ru (.cons ru2 .nil), ⟨_, hT2, rfl, _, rfl⟩⟩
    have I1 : Inv X pins σ (upd H s.heap.objs.size (.tup [xs[i], ys[i]])) { s with heap := h'', toks := tk } :=
      I.turnedNew (t' := tk) (ch := [z, TI, TO, i1, i2]) (fun c o hb q => (sb.2 c (fun q' => hb (by simp [q']))).trans (hk c o (fun q' => hb (by simp [q'])) (fun q' => hb (by simp [q'])) (fun q' => hb (by simp [q'])) (fun q' => hb (by simp [q'])) q)) hf (Nat.le_refl _) new
    refine ⟨.ref s.heap.objs.size, _, I1, rfl, ⟨_, xs[i], ys[i], rfl, I.hok.fresh (Nat.le_refl _), rfl, fun l hl => by rw [seqK_inj I hl hqx]; exact hx, fun l hl => by rw [seqK_inj I hl hqy]; exact hy⟩, ⟨z'', ?_, ⟨x1, x2, ?_⟩, ?_, ?_⟩, fun c hcm => ?_⟩
    · exact (sb.2 _ D.TIz).trans (hk _ _ D.TIz D.TITO D.TIi1 D.TIi2 hTI)
    · exact (sb.2 _ D.TOz).trans TO'
    · exact itAt h1' fun o q => (sb.2 _ D.zi1.symm).trans q
    · exact itAt h2' fun o q => (sb.2 _ D.zi2.symm).trans q
    · have hlt : c < s.heap.objs.size := by
        have e' : c = z ∨ c = TI ∨ c = TO ∨ c = i1 ∨ c = i2 := by simpa using hcm
        rcases e' with q | q | q | q | q
        · rw [q]; exact hzl
        · rw [q]; exact Heap.lt_size hTI
        · rw [q]; exact Heap.lt_size hTO
        · rw [q]; obtain ⟨_, e1, _⟩ := itObj? h1; exact Heap.lt_size e1
        · rw [q]; obtain ⟨_, e2, _⟩ := itObj? h2; exact Heap.lt_size e2
      rw [upd_ne (Nat.ne_of_lt hlt)]
      exact (hf c hcm).1
  · intro X hP hw hK hc i pins s σ H E I hf st hg
    subst hP hw hK
    obtain ⟨hz, hTI, ⟨x0, y0, hTO⟩, h1, h2⟩ := st
    obtain ⟨xs, ys, hqx, hqy, e1, e2, hi⟩ := hg
    obtain ⟨its, rv, p, z1⟩ := inv_seqK I hqx
    obtain ⟨its2, rv2, p2, z2⟩ := inv_seqK I hqy
    have l1 : its.toArray.size = n1 := by rw [List.size_toArray, ← rv.length, e1]
    have l2 : its2.toArray.size = n2 := by rw [List.size_toArray, ← rv2.length, e2]
    have hh : X.A.in1.handled = none := I.ok.hd hc
    have D1 := drawsK (prog := X.prog) (w := X.w) k1 hh i1 a hai its.toArray (by rw [l1, ← e1]; exact z1)
    have D2 := drawsK (prog := X.prog) (w := X.w) k2 hh i2 b hbi its2.toArray (by rw [l2, ← e2]; exact z2)
    exact wpAny_pyNext_zipD2_end (i := i) D D1 D2 hz hTI hTO ⟨by omega, by rw [l1]; exact h1, p⟩ ⟨by omega, by rw [l2]; exact h2, p2⟩ (by omega) (by omega) (by omega) fun h' tk hk => ⟨rfl, I.turnedL (t' := tk) (ch := [z, TI, TO, i1, i2]) (fun c o hb q =>
      hk c o (fun q' => hb (by simp [q'])) (fun q' => hb (by simp [q'])) (fun q' => hb (by simp [q'])) (fun q' => hb (by simp [q'])) q) hf⟩

/-! ### the calls -/
abbrev zkH1 (k1 : Kd) (h : Heap) (l1 : Addr) : Heap := h.push (itObj k1 l1 0)
abbrev zkH2 (k1 k2 : Kd) (h : Heap) (l1 l2 : Addr) : Heap := (zkH1 k1 h l1).push (itObj k2 l2 0)
abbrev zkH3 (k1 k2 : Kd) (h : Heap) (l1 l2 : Addr) : Heap := (zkH2 k1 k2 h l1 l2).push { cls := .type "tuple", data := .seq #[.ref h.objs.size, .ref (zkH1 k1 h l1).objs.size] }
abbrev zkH4 (k1 k2 : Kd) (h : Heap) (l1 l2 : Addr) : Heap := (zkH3 k1 k2 h l1 l2).push { cls := .type "tuple", data := .seq #[.none, .none] }
abbrev zkH5 (k1 k2 : Kd) (h : Heap) (l1 l2 : Addr) : Heap := (zkH4 k1 k2 h l1 l2).push { cls := .type "zip", data := .fields #[.none, .bool false, .bool false, .ref (zkH2 k1 k2 h l1 l2).objs.size, .ref (zkH3 k1 k2 h l1 l2).objs.size] }
def flatK : Kd → Bool
  | .rvt => false
  | _ => true
theorem meets_zipK {k1 k2 : Kd} (f1 : flatK k1 = true) (f2 : flatK k2 = true) (l1 l2 : Addr) (xs ys : Array Value) :
    Meets (Builtin.«zip.__new__» ⟨[.type "zip", .ref l1, .ref l2], []⟩) (fun _ R s => HasK k1 s.heap l1 xs ∧ HasK k2 s.heap l2 ys ∧
      R (.ok (.ret (.ref (zkH4 k1 k2 s.heap l1 l2).objs.size))) { s with heap := zkH5 k1 k2 s.heap l1 l2 }) :=
  .of_wp fun prog w A R s h => by
    obtain ⟨hp, g, d, tk, os⟩ := s; obtain ⟨hl1, hl2, h⟩ := h
    have hsub := sub_zip
    cases k1 with
    | rvt => cases f1
    | lst =>
      have hL1 : Heap.IsList (Shared.heap ⟨hp, g, d, tk, os⟩) l1 xs := hl1
      cases k2 with
      | rvt => cases f2
      | lst =>
        have hL2 : Heap.IsList (Shared.heap ⟨hp.push { cls := .type "list_iterator", data := .fields #[.ref l1, .int 0 0] }, g, d, tk, os⟩) l2 ys := Heap.IsList.push hl2 _
        wp_walk using wpAny_pyIter_list hL1, wpAny_pyIter_list hL2
        exact ⟨_, rfl, h⟩
      | tup =>
        have hL2 : Heap.IsTuple (Shared.heap ⟨hp.push { cls := .type "list_iterator", data := .fields #[.ref l1, .int 0 0] }, g, d, tk, os⟩) l2 ys := Heap.IsTuple.push hl2 _
        wp_walk using wpAny_pyIter_list hL1, wpAny_pyIter_tuple hL2
        exact ⟨_, rfl, h⟩
    | tup =>
      have hL1 : Heap.IsTuple (Shared.heap ⟨hp, g, d, tk, os⟩) l1 xs := hl1
      cases k2 with
      | rvt => cases f2
      | lst =>
        have hL2 : Heap.IsList (Shared.heap ⟨hp.push { cls := .type "tuple_iterator", data := .fields #[.ref l1, .int 0 0] }, g, d, tk, os⟩) l2 ys := Heap.IsList.push hl2 _
        wp_walk using wpAny_pyIter_tuple hL1, wpAny_pyIter_list hL2
        exact ⟨_, rfl, h⟩
      | tup =>
        have hL2 : Heap.IsTuple (Shared.heap ⟨hp.push { cls := .type "tuple_iterator", data := .fields #[.ref l1, .int 0 0] }, g, d, tk, os⟩) l2 ys := Heap.IsTuple.push hl2 _
        wp_walk using wpAny_pyIter_tuple hL1, wpAny_pyIter_tuple hL2
        exact ⟨_, rfl, h⟩
abbrev zrH2 (k1 : Kd) (h : Heap) (l1 r : Addr) : Heap := (zkH1 k1 h l1).push { cls := .type "tuple", data := .seq #[.ref h.objs.size, .ref r] }
abbrev zrH3 (k1 : Kd) (h : Heap) (l1 r : Addr) : Heap := (zrH2 k1 h l1 r).push { cls := .type "tuple", data := .seq #[.none, .none] }
abbrev zrH4 (k1 : Kd) (h : Heap) (l1 r : Addr) : Heap := (zrH3 k1 h l1 r).push { cls := .type "zip", data := .fields #[.none, .bool false, .bool false, .ref (zkH1 k1 h l1).objs.size, .ref (zrH2 k1 h l1 r).objs.size] }
theorem meets_zipR {k1 : Kd} (f1 : flatK k1 = true) (l1 r b : Addr) (xs : Array Value) (j : Int) :
    Meets (Builtin.«zip.__new__» ⟨[.type "zip", .ref l1, .ref r], []⟩) (fun _ R s => HasK k1 s.heap l1 xs ∧ RT.IsRt s.heap r b j ∧
      R (.ok (.ret (.ref (zrH3 k1 s.heap l1 r).objs.size))) { s with heap := zrH4 k1 s.heap l1 r }) :=
  .of_wp fun prog w A R s h => by
    obtain ⟨hp, g, d, tk, os⟩ := s; obtain ⟨hl1, hl2, h⟩ := h
    have hsub := sub_zip
    cases k1 with
    | rvt => cases f1
    | lst =>
      have hL1 : Heap.IsList (Shared.heap ⟨hp, g, d, tk, os⟩) l1 xs := hl1
      have hL2 : RT.IsRt (Shared.heap ⟨hp.push { cls := .type "list_iterator", data := .fields #[.ref l1, .int 0 0] }, g, d, tk, os⟩) r b j := RT.IsRt.at hl2 fun o e => Heap.get?_push_of_some _ e
      wp_walk using wpAny_pyIter_list hL1, RT.iter_rt hL2
      exact ⟨_, rfl, h⟩
    | tup =>
      have hL1 : Heap.IsTuple (Shared.heap ⟨hp, g, d, tk, os⟩) l1 xs := hl1
      have hL2 : RT.IsRt (Shared.heap ⟨hp.push { cls := .type "tuple_iterator", data := .fields #[.ref l1, .int 0 0] }, g, d, tk, os⟩) r b j := RT.IsRt.at hl2 fun o e => Heap.get?_push_of_some _ e
      wp_walk using wpAny_pyIter_tuple hL1, RT.iter_rt hL2
      exact ⟨_, rfl, h⟩
theorem itK_new {k : Kd} (f : flatK k = true) {h : Heap} {it a : Addr} {n : Nat} (e : h.get? it = some (itObj k a 0)) : ItK k h it a 0 n := by
  cases k with
  | rvt => cases f
  | lst => exact ⟨_, e, rfl, rfl⟩
  | tup => exact ⟨_, e, rfl, rfl⟩
section
variable {prog : Program} {w : World} {A : Around} {E : Value → Shared → Prop} {s : Shared}
theorem call_zipK {k1 k2 : Kd} (f1 : flatK k1 = true) (f2 : flatK k2 = true) {l1 l2 : Addr} {xs ys : Array Value} {n1 n2 : Nat} {Q : Value → Shared → Prop} (hl1 : HasK k1 s.heap l1 xs) (hl2 : HasK k2 s.heap l2 ys)
    (h : ∀ h', IsZip h' (s.heap.objs.size + 4) (s.heap.objs.size + 2) (s.heap.objs.size + 3) .none → IsPair h' (s.heap.objs.size + 2) (.ref s.heap.objs.size) (.ref (s.heap.objs.size + 1)) →
      IsPair h' (s.heap.objs.size + 3) .none .none → ItK k1 h' s.heap.objs.size l1 0 n1 → ItK k2 h' (s.heap.objs.size + 1) l2 0 n2 →
      (∀ c o, s.heap.get? c = some o → h'.get? c = some o) → Q (.ref (s.heap.objs.size + 4)) { s with heap := h' }) :
    wpAny (model prog w) A (call (.type "zip") [.ref l1, .ref l2]) Q E s := by
  refine callType_new F.called_zip (by decide) (F.typeCall_zip_2 _ _) (F.newCall_zip_2 _ _) (fun obj => F.args_object_init_3 obj _ _) F.entry_zip_new
    (meets_zipK f1 f2 l1 l2 xs ys) ⟨hl1, hl2, ?_⟩
  have z1 : (zkH1 k1 s.heap l1).objs.size = s.heap.objs.size + 1 := Heap.size_push ..
  have z2 : (zkH2 k1 k2 s.heap l1 l2).objs.size = s.heap.objs.size + 2 := by rw [Heap.size_push, z1]
  have z3 : (zkH3 k1 k2 s.heap l1 l2).objs.size = s.heap.objs.size + 3 := by rw [Heap.size_push, z2]
  have z4 : (zkH4 k1 k2 s.heap l1 l2).objs.size = s.heap.objs.size + 4 := by rw [Heap.size_push, z3]
  have z5 : (zkH5 k1 k2 s.heap l1 l2).objs.size = s.heap.objs.size + 5 := by rw [Heap.size_push, z4]
  have g5 : (zkH5 k1 k2 s.heap l1 l2).get? (zkH4 k1 k2 s.heap l1 l2).objs.size = some _ := Heap.get?_push_size _ rfl
  have g4 : (zkH5 k1 k2 s.heap l1 l2).get? (zkH3 k1 k2 s.heap l1 l2).objs.size = some _ := Heap.get?_push_of_some _ (Heap.get?_push_size _ rfl)
  have g3 : (zkH5 k1 k2 s.heap l1 l2).get? (zkH2 k1 k2 s.heap l1 l2).objs.size = some _ := Heap.get?_push_of_some _ (Heap.get?_push_of_some _ (Heap.get?_push_size _ rfl))
  have g2 : (zkH5 k1 k2 s.heap l1 l2).get? (zkH1 k1 s.heap l1).objs.size = some (itObj k2 l2 0) := Heap.get?_push_of_some _ (Heap.get?_push_of_some _ (Heap.get?_push_of_some _ (Heap.get?_push_size _ (by cases k2 <;> rfl))))
  have g1 : (zkH5 k1 k2 s.heap l1 l2).get? s.heap.objs.size = some (itObj k1 l1 0) := Heap.get?_push_of_some _ (Heap.get?_push_of_some _ (Heap.get?_push_of_some _ (Heap.get?_push_of_some _ (Heap.get?_push_size _ (by cases k1 <;> rfl)))))
  show _ ∧ _
  rw [z2, z3, z4] at g5
  rw [z1, z2] at g3
  rw [z3] at g4
  rw [z1] at g2
  rw [z4]
  exact ⟨⟨_, g5, rfl⟩, h _ g5 g3 g4 (itK_new f1 g1) (itK_new f2 g2) fun c o x =>
    Heap.get?_push_of_some _ (Heap.get?_push_of_some _ (Heap.get?_push_of_some _ (Heap.get?_push_of_some _ (Heap.get?_push_of_some _ x))))⟩
theorem call_zipR {k1 : Kd} (f1 : flatK k1 = true) {l1 r b : Addr} {xs : Array Value} {j : Int} {n1 : Nat} {Q : Value → Shared → Prop} (hl1 : HasK k1 s.heap l1 xs) (hl2 : RT.IsRt s.heap r b j)
    (h : ∀ h', IsZip h' (s.heap.objs.size + 3) (s.heap.objs.size + 1) (s.heap.objs.size + 2) .none → IsPair h' (s.heap.objs.size + 1) (.ref s.heap.objs.size) (.ref r) →
      IsPair h' (s.heap.objs.size + 2) .none .none → ItK k1 h' s.heap.objs.size l1 0 n1 → RT.IsRt h' r b j →
      (∀ c o, s.heap.get? c = some o → h'.get? c = some o) → Q (.ref (s.heap.objs.size + 3)) { s with heap := h' }) :
    wpAny (model prog w) A (call (.type "zip") [.ref l1, .ref r]) Q E s := by
  refine callType_new F.called_zip (by decide) (F.typeCall_zip_2 _ _) (F.newCall_zip_2 _ _) (fun obj => F.args_object_init_3 obj _ _) F.entry_zip_new
    (meets_zipR f1 l1 r b xs j) ⟨hl1, hl2, ?_⟩
  have z1 : (zkH1 k1 s.heap l1).objs.size = s.heap.objs.size + 1 := Heap.size_push ..
  have z2 : (zrH2 k1 s.heap l1 r).objs.size = s.heap.objs.size + 2 := by rw [Heap.size_push, z1]
  have z3 : (zrH3 k1 s.heap l1 r).objs.size = s.heap.objs.size + 3 := by rw [Heap.size_push, z2]
  have z4 : (zrH4 k1 s.heap l1 r).objs.size = s.heap.objs.size + 4 := by rw [Heap.size_push, z3]
  have g5 : (zrH4 k1 s.heap l1 r).get? (zrH3 k1 s.heap l1 r).objs.size = some _ := Heap.get?_push_size _ rfl
  have g4 : (zrH4 k1 s.heap l1 r).get? (zrH2 k1 s.heap l1 r).objs.size = some _ := Heap.get?_push_of_some _ (Heap.get?_push_size _ rfl)
  have g3 : (zrH4 k1 s.heap l1 r).get? (zkH1 k1 s.heap l1).objs.size = some _ := Heap.get?_push_of_some _ (Heap.get?_push_of_some _ (Heap.get?_push_size _ rfl))
  have g1 : (zrH4 k1 s.heap l1 r).get? s.heap.objs.size = some (itObj k1 l1 0) := Heap.get?_push_of_some _ (Heap.get?_push_of_some _ (Heap.get?_push_of_some _ (Heap.get?_push_size _ (by cases k1 <;> rfl))))
  have kp : ∀ c o, s.heap.get? c = some o → (zrH4 k1 s.heap l1 r).get? c = some o := fun c o x =>
    Heap.get?_push_of_some _ (Heap.get?_push_of_some _ (Heap.get?_push_of_some _ (Heap.get?_push_of_some _ x)))
  show _ ∧ _
  rw [z1, z2, z3] at g5
  rw [z1] at g3
  rw [z2] at g4
  rw [z3]
  exact ⟨⟨_, g5, rfl⟩, h _ g5 g3 g4 (itK_new f1 g1) (RT.IsRt.at hl2 fun o e => kp _ _ e) kp⟩
end

theorem ne_lt {a b : Nat} (h : a < b ∨ b < a) : a ≠ b := by omega
theorem zipSepK (I l1 l2 : Nat) (h1 : l1 < I) (h2 : l2 < I) : ZipSep2 (I + 4) (I + 2) (I + 3) I (I + 1) [I, l1] [I + 1, l2] := by
  have n1 : ∀ k, I + k ≠ l1 := fun k => ne_lt (.inr (by omega))
  have n2 : ∀ k, I + k ≠ l2 := fun k => ne_lt (.inr (by omega))
  have m1 := n1 0
  have m2 := n2 0
  have q : ∀ i j, i ≠ j → I + i ≠ I + j := fun i j h => by omega
  have q0 : ∀ i, i ≠ 0 → I + i ≠ I := fun i h => by omega
  have q1 : ∀ i, i ≠ 0 → I ≠ I + i := fun i h => by omega
  constructor <;> simp [n1, n2, m1, m2, q0, q1]
  all_goals first | exact m1 | exact m2 | exact n1 _ | exact n2 _ | skip
theorem zipSepR (I l1 l2 r : Nat) (h1 : l1 < I) (h2 : l2 < I) (hr : r < I) (hn : r ≠ l1) (hn2 : l2 ≠ r) : ZipSep2 (I + 3) (I + 1) (I + 2) I r [I, l1] [r, l2] := by
  have n1 : ∀ k, I + k ≠ l1 := fun k => ne_lt (.inr (by omega))
  have n2 : ∀ k, I + k ≠ l2 := fun k => ne_lt (.inr (by omega))
  have n3 : ∀ k, I + k ≠ r := fun k => ne_lt (.inr (by omega))
  have m1 := n1 0
  have m2 := n2 0
  have m3 := n3 0
  have m4 := m3.symm
  have q0 : ∀ i, i ≠ 0 → I + i ≠ I := fun i h => by omega
  have q1 : ∀ i, i ≠ 0 → I ≠ I + i := fun i h => by omega
  constructor <;> simp [n1, n2, n3, m1, m2, m3, m4, q0, q1, hn, hn2]
  all_goals first | exact m1 | exact m2 | exact m3 | exact m4 | exact n1 _ | exact n2 _ | exact n3 _ | exact ⟨m3, m2⟩ | exact ⟨m4, hn⟩ | skip
theorem hasK_lt {k : Kd} {h : Heap} {a : Addr} {its : Array Value} (p : HasK k h a its) : a < h.objs.size := by
  cases k <;> (obtain ⟨o, ho, _⟩ := p; exact Heap.lt_size ho)
def iZipK (K : PySem.W.Frag) (ta : TA) : TI := fun σ H R => ta σ H fun vs H1 => ∃ k1 k2 a b xs ys, flatK k1 = true ∧ flatK k2 = true ∧ vs = [.ref a, .ref b] ∧ SqK k1 K H1 a xs ∧ SqK k2 K H1 b ys ∧ R (ItzK K k1 k2 a b xs.length ys.length) H1
theorem pi_zipK {X : Cx} {e e2 : Expr} {ta : TA} {p pos tpos : Pos} {elts : List Expr} {kk : Nat} (hg : Gl X "zip") (hm : X.mg "zip" = none) (ha : PA X [e, e2] ta)
    (hs : starEach [e, e2] X.env = (false, eval e X.env) :: starEach [e2] X.env := by rfl) (hpl : (backTo pos (starEach [e2] X.env)).any (·.1) = false := by rfl) :
    PI X (.Tuple elts kk tpos) (.Call (.Name "zip" p) [e, e2] [] pos) (iZipK X.K ta) := by
  refine ⟨fun pins s σ H R I h => ?_⟩
  refine Call_ (ld_blt I hg hm PyProof.Rows.boot_zip (PyProof.Rows.callWith_type1 (thn (ha.run pos pins s σ H _ I h) fun us s1 ⟨vs, H1, I1, r1, q1⟩ => ?_) hs hpl))
  obtain ⟨k1, k2, a, b, xs, ys, f1, f2, ex, hqx, hqy, q⟩ := q1
  subst ex
  cases r1 with
  | cons r rr =>
    cases rr with
    | cons r' rr =>
      cases rr
      cases r
      cases r'
      have fresh5 : ∀ c, c ∈ [s1.heap.objs.size + 4, s1.heap.objs.size + 2, s1.heap.objs.size + 3, s1.heap.objs.size, s1.heap.objs.size + 1] → FpOk X pins H1 c := fun c hcm => by
        have e' : c = s1.heap.objs.size + 4 ∨ c = s1.heap.objs.size + 2 ∨ c = s1.heap.objs.size + 3 ∨ c = s1.heap.objs.size ∨ c = s1.heap.objs.size + 1 := by simpa using hcm
        have hle : s1.heap.objs.size ≤ c := by
          rcases e' with z | z | z | z | z
          · rw [z]; exact Nat.le_add_right _ _
          · rw [z]; exact Nat.le_add_right _ _
          · rw [z]; exact Nat.le_add_right _ _
          · rw [z]; exact Nat.le_refl _
          · rw [z]; exact Nat.le_add_right _ _
        exact I1.fpOk hle (I1.hok.fresh hle)
      obtain ⟨its, rv, p1, _⟩ := inv_seqK I1 hqx
      obtain ⟨its2, rv2, p2, _⟩ := inv_seqK I1 hqy
      have la := hasK_lt p1
      have lb := hasK_lt p2
      refine call_zipK (n1 := xs.length) (n2 := ys.length) f1 f2 p1 p2 fun h' hz hTI hTO h1 h2 hk => wpAny_pyIter_zip hz ?_
      have I2 : Inv X pins σ H1 { s1 with heap := h' } := I1.kept (t' := s1.toks) hk
      exact ⟨s1.heap.objs.size + 4, [s1.heap.objs.size + 4, s1.heap.objs.size + 2, s1.heap.objs.size + 3, s1.heap.objs.size, s1.heap.objs.size + 1], _, _, H1, rfl, I2, turn_zipK (zipSepK s1.heap.objs.size a b la lb) (Nat.ne_of_lt la) (Nat.ne_of_lt (Nat.lt_succ_of_lt lb)), ⟨hz, hTI, ⟨_, _, hTO⟩, h1, h2⟩, fresh5, q⟩
def iZipR (K : PySem.W.Frag) (t1 t2 : TE) : TI := fun σ H R => t1 σ H fun x H1 => t2 σ H1 fun y H2 => ∃ k1 a b xs ys, flatK k1 = true ∧ x = .ref a ∧ y = .ref b ∧ SqK k1 K H2 a xs ∧ SqT K H2 b ys ∧ R (ItzK K k1 .rvt a b xs.length ys.length) H2
theorem pi_zipR {X : Cx} {e e2 : Expr} {t1 t2 : TE} {p p2 pos pos2 tpos : Pos} {elts : List Expr} {kk : Nat} (hg : Gl X "zip") (hm : X.mg "zip" = none) (hg2 : Gl X "reversed") (hm2 : X.mg "reversed" = none) (h1 : PE X e t1) (h2 : PE X e2 t2)
    (hs : starEach [e, .Call (.Name "reversed" p2) [e2] [] pos2] X.env = (false, eval e X.env) :: starEach [.Call (.Name "reversed" p2) [e2] [] pos2] X.env := by rfl)
    (hs1 : starEach [.Call (.Name "reversed" p2) [e2] [] pos2] X.env = (false, eval (.Call (.Name "reversed" p2) [e2] [] pos2) X.env) :: starEach [] X.env := by rfl)
    (hs2 : starEach [e2] X.env = (false, eval e2 X.env) :: starEach [] X.env := by rfl) :
    PI X (.Tuple elts kk tpos) (.Call (.Name "zip" p) [e, .Call (.Name "reversed" p2) [e2] [] pos2] [] pos) (iZipR X.K t1 t2) := by
  refine ⟨fun pins s σ H R I h => ?_⟩
  refine Call_ (ld_blt I hg hm PyProof.Rows.boot_zip (PyProof.Rows.callWith_type1 (args_cons (thn (h1.run pins s σ H _ I h) fun u s1 ⟨x, H1, I1, r1, q1⟩ => args_cons ?_ hs1) hs) hs (by rw [hs1]; rfl)))
  refine Call_ (ld_blt I1 hg2 hm2 PyProof.Rows.boot_reversed (PyProof.Rows.callWith_type1 (args_cons (thn (h2.run pins s1 σ H1 _ I1 q1) fun u2 s2 ⟨y, H2, I2, r2, q2⟩ => args_nil ?_) hs2) hs2 rfl))
  obtain ⟨k1, a, b, xs, ys, f1, rfl, rfl, hqx, hqy, q⟩ := q2
  obtain rfl : u = Value.ref a := r1
  obtain rfl : u2 = Value.ref b := r2
  obtain ⟨its, rv, p1, _⟩ := inv_seqK I2 hqx
  obtain ⟨its2, rv2, p2, hz2⟩ := I2.tuple hqy
  have hn := line63
  have l2 : its2.toArray.size = ys.length := by rw [List.size_toArray, ← rv2.length]
  refine RT.call_reversed_tup p2 (fun A E Q k => len_tuple p2 (by omega) k) (args_nil ?_)
  have hrt : RT.IsRt (s2.heap.push (RT.rtObj b ((its2.toArray.size : Int) - 1))) s2.heap.objs.size b ((its2.toArray.size : Int) - 1) := ⟨_, Heap.get?_push_size _ rfl, rfl, rfl⟩
  have k0 : ∀ c o, s2.heap.get? c = some o → (s2.heap.push (RT.rtObj b ((its2.toArray.size : Int) - 1))).get? c = some o := fun c o e => Heap.get?_push_of_some _ e
  have la := hasK_lt p1
  have lb : b < s2.heap.objs.size := by obtain ⟨o, ho, _⟩ := id p2; exact Heap.lt_size ho
  have p1' : HasK k1 (s2.heap.push (RT.rtObj b ((its2.toArray.size : Int) - 1))) a its.toArray := by
    cases k1 with
    | rvt => cases f1
    | lst => exact Heap.IsList.push p1 _
    | tup => exact Heap.IsTuple.push p1 _
  have sz : (s2.heap.push (RT.rtObj b ((its2.toArray.size : Int) - 1))).objs.size = s2.heap.objs.size + 1 := Heap.size_push ..
  refine call_zipR (s := { s2 with heap := s2.heap.push (RT.rtObj b ((its2.toArray.size : Int) - 1)), toks := s2.toks + 1 + 1 }) (n1 := xs.length) f1 p1' hrt fun h' hz hTI hTO g1 g2 hk => wpAny_pyIter_zip hz ?_
  have hk2 : ∀ c o, s2.heap.get? c = some o → h'.get? c = some o := fun c o e => hk c o (k0 c o e)
  have I3 : Inv X pins σ H2 { s2 with heap := h', toks := s2.toks + 1 + 1 } := I2.kept (t' := s2.toks + 1 + 1) hk2
  simp only [sz] at hz hTI hTO g1 ⊢
  have hle : ∀ c, s2.heap.objs.size ≤ c → FpOk X pins H2 c := fun c h => I2.fpOk h (I2.hok.fresh h)
  refine ⟨s2.heap.objs.size + 1 + 3, [s2.heap.objs.size + 1 + 3, s2.heap.objs.size + 1 + 1, s2.heap.objs.size + 1 + 2, s2.heap.objs.size + 1, s2.heap.objs.size], _, _, H2, rfl, I3, turn_zipK (zipSepR (s2.heap.objs.size + 1) a b s2.heap.objs.size (Nat.lt_succ_of_lt la) (Nat.lt_succ_of_lt lb) (Nat.lt_succ_self _) (Nat.ne_of_gt la) (Nat.ne_of_lt lb)) (Nat.ne_of_lt (Nat.lt_succ_of_lt la)) (Nat.ne_of_lt lb), ⟨hz, hTI, ⟨_, _, hTO⟩, g1, ?_⟩, fun c hcm => ?_, q⟩
  · show RT.IsRt h' _ b _
    rw [← l2]
    have e : ((its2.toArray.size : Nat) : Int) - 1 - ((0 : Nat) : Int) = (its2.toArray.size : Int) - 1 := by omega
    rw [e]; exact g2
  · have e' : c = s2.heap.objs.size + 1 + 3 ∨ c = s2.heap.objs.size + 1 + 1 ∨ c = s2.heap.objs.size + 1 + 2 ∨ c = s2.heap.objs.size + 1 ∨ c = s2.heap.objs.size := by simpa using hcm
    refine hle c ?_
    rcases e' with z | z | z | z | z <;> rw [z] <;> simp only [Nat.add_assoc, Nat.le_add_right, Nat.le_refl]

/-! ### enumerate of a list or a tuple -/
theorem itK_obj {k : Kd} {h : Heap} {it a : Addr} {i n : Nat} (st : ItK k h it a i n) : ∃ o, h.get? it = some o ∧ ∀ v, o.data ≠ .cell v := by
  cases k with
  | lst => obtain ⟨o, e, _, d⟩ := st; exact ⟨o, e, fun v q => by rw [d] at q; cases q⟩
  | tup => obtain ⟨o, e, _, d⟩ := st; exact ⟨o, e, fun v q => by rw [d] at q; cases q⟩
  | rvt => obtain ⟨o, e, _, d⟩ := st; exact ⟨o, e, fun v q => by rw [d] at q; cases q⟩
theorem itK_at {k : Kd} {h h' : Heap} {it a : Addr} {i n : Nat} (st : ItK k h it a i n) (hk : ∀ o, h.get? it = some o → h'.get? it = some o) : ItK k h' it a i n := by
  cases k with
  | lst => exact Heap.IsListIter.at st hk
  | tup => exact Heap.IsTupleIter.at st hk
  | rvt => exact RT.IsRt.at st hk
def IteK (K : PySem.W.Frag) (k : Kd) (a : Addr) (n : Nat) : It :=
  ⟨fun i H => ∃ xs : List V, SqK k K H a xs ∧ xs.length = n ∧ i < n,
    fun i H v H' => ∃ T x, v = .ref T ∧ H T = none ∧ H' = upd H T (.tup [.int (i : Nat), x]) ∧ ∀ xs, SqK k K H a xs → xs[i]? = some x,
    fun i H => ∃ xs : List V, SqK k K H a xs ∧ xs.length = n ∧ i = n⟩
theorem turn_enumK {P : Program} {w : World} {K : PySem.W.Frag} {elts : List Expr} {kk : Nat} {tpos : Pos} {k : Kd} {a e it : Addr} {n : Nat} (hea : e ≠ a) (hai : a ≠ it) :
    Turn P w K (.Tuple elts kk tpos) (IteK K k a n) [e, it] e (fun i h => (∃ old, IsEnum h e it ((i : Nat) : Int) old) ∧ ItK k h it a i n ∧ e ≠ it) := by
  refine ⟨by simp, ?_, ?_, ?_, ?_, fun A i s Q E st h => let ⟨⟨_, he⟩, _⟩ := st; wpAny_pyIter_enum he h⟩
  · intro i h st b hb
    obtain ⟨⟨old, he⟩, h1, _⟩ := st
    have e' : b = e ∨ b = it := by simpa using hb
    rcases e' with z | z
    · rw [z]; exact ⟨_, he, fun v q => nomatch q⟩
    · rw [z]; exact itK_obj h1
  · intro i h h' st k
    obtain ⟨⟨old, he⟩, h1, hne⟩ := st
    exact ⟨⟨old, k e (by simp) _ he⟩, itK_at h1 fun o q => k it (by simp) o q, hne⟩
  · intro X hP hw hK hc i pins s σ H E I hf st hg
    subst hP hw hK
    obtain ⟨⟨old, he⟩, h1, hne⟩ := st
    obtain ⟨xs, hq, el, hi⟩ := hg
    obtain ⟨its, rv, p, hz⟩ := inv_seqK I hq
    have l1 : its.toArray.size = n := by rw [List.size_toArray, ← rv.length, el]
    have hx : xs[i]? = some xs[i] := List.getElem?_eq_getElem (by omega)
    obtain ⟨u, hu, ru⟩ := rv.get hx
    have hel : e < s.heap.objs.size := Heap.lt_size he
    have hh : X.A.in1.handled = none := I.ok.hd hc
    have D1 := drawsK (prog := X.prog) (w := X.w) k hh it a hai its.toArray (by rw [l1, ← el]; exact hz)
    refine wpAny_pyNext_enum_itemD (i := i) D1 he ⟨by omega, by rw [l1]; exact h1, p⟩ (by omega) hne (by simp [hne, hea]) fun x1 h' tk q1 ho st' hT hsz hk => ?_
    have eu : x1 = u := by
      have : its[i]? = some x1 := by simpa using q1
      exact Option.some.inj (this.symm.trans hu)
    subst eu
    have h1' : ItK k h' it a (i + 1) n := by rw [← l1]; exact st'.2.1
    refine ⟨_, rfl, wpAny_letOwnedTupleGo_enum (s := { s with heap := h', toks := tk + 1 }) ho fun h'' he' sb => ?_⟩
    have hT2 : h''.get? s.heap.objs.size = some { cls := .type "tuple", data := .seq #[.int i tk, x1] } := (sb.2 _ (Nat.ne_of_gt hel)).trans hT
    have new : ObjOk X.prog X.w (upd H s.heap.objs.size (.tup [.int (i : Nat), xs[i]])) h'' s.heap.objs.size (.tup [.int (i : Nat), xs[i]]) :=
      ⟨by show 2 ≤ sizeLine; decide, [.int i tk, x1], .cons ⟨_, rfl⟩ (.cons ru .nil), ⟨_, hT2, rfl, _, rfl⟩⟩
    have I1 : Inv X pins σ (upd H s.heap.objs.size (.tup [.int (i : Nat), xs[i]])) { s with heap := h'', toks := tk + 1 } :=
      I.turnedNew (t' := tk + 1) (ch := [e, it]) (fun b ob hb q => (sb.2 b (fun z => hb (by simp [z]))).trans (hk b ob (fun z => hb (by simp [z])) (fun z => hb (by simp [z])) q)) hf (Nat.le_refl _) new
    refine ⟨.ref s.heap.objs.size, _, I1, rfl, ⟨_, xs[i], rfl, I.hok.fresh (Nat.le_refl _), rfl, fun ys hy => by rw [seqK_inj I hy hq]; exact hx⟩, ⟨⟨x1, ?_⟩, itK_at h1' fun o q => (sb.2 it (Ne.symm hne)).trans q, hne⟩, fun b hb => ?_⟩
    · have e1 : ((i + 1 : Nat) : Int) = (i : Int) + 1 := by omega
      rw [e1]; exact he'
    · have hb' : b < s.heap.objs.size := by
        have e' : b = e ∨ b = it := by simpa using hb
        rcases e' with z | z
        · rw [z]; exact hel
        · rw [z]; obtain ⟨_, q, _⟩ := itK_obj h1; exact Heap.lt_size q
      rw [upd_ne (Nat.ne_of_lt hb')]
      exact (hf b hb).1
  · intro X hP hw hK hc i pins s σ H E I hf st hg
    subst hP hw hK
    obtain ⟨⟨old, he⟩, h1, hne⟩ := st
    obtain ⟨xs, hq, el, hi⟩ := hg
    obtain ⟨its, rv, p, hz⟩ := inv_seqK I hq
    have l1 : its.toArray.size = n := by rw [List.size_toArray, ← rv.length, el]
    have hh : X.A.in1.handled = none := I.ok.hd hc
    have D1 := drawsK (prog := X.prog) (w := X.w) k hh it a hai its.toArray (by rw [l1, ← el]; exact hz)
    obtain ⟨f0, f1, f2, f3, f4, f5⟩ := hf it (by simp)
    exact wpAny_pyNext_enum_endD D1 he ⟨by omega, by rw [l1]; rw [hi] at h1; exact h1, p⟩ fun h' eb => ⟨rfl, I.turned (t' := s.toks) (fun b o hb q => eb b o hb q) f0 f1 f3 f4 f5⟩
theorem meets_enum1B {v : Value} {o : Obj} {H : Heap → Prop} (B : Begins v o H) :
    Meets (Builtin.«enumerate.__new__» ⟨[.type "enumerate", v], []⟩) (fun _ R s => H s.heap ∧
      R (.ok (.ret (.ref (s.heap.push o).objs.size))) { s with heap := (s.heap.push o).push { cls := .type "enumerate", data := .fields #[.none, .bool false, .ref s.heap.objs.size, rawInt 0, .none, .none] } }) :=
  .of_wp fun prog w A R s h => by
    obtain ⟨hp, g, d, tk, os⟩ := s; obtain ⟨h1, h⟩ := h
    have hsub := sub_enumerate
    have q1 : ∀ {A' : Around} {E : Value → Shared → Prop} {Q : Value → Shared → Prop}, Q (.ref hp.objs.size) ⟨hp.push o, g, d, tk, os⟩ → wpAny (model prog w) A' (pyIter v) Q E ⟨hp, g, d, tk, os⟩ :=
      fun q => B.iter prog w _ _ ⟨hp, g, d, tk, os⟩ _ h1 q
    wp_walk using q1
    refine wpAny_stack_any fun st => wpAny_pure ?_
    split
    · rename_i c _ _ _ _ _
      cases (c == Value.type "enumerate")
      · wp_walk using q1
        exact ⟨_, rfl, h⟩
      · wp_walk using q1
        exact ⟨_, rfl, h⟩
    · wp_walk using q1
      exact ⟨_, rfl, h⟩
section
variable {prog : Program} {w : World} {A : Around} {E : Value → Shared → Prop} {s : Shared}
theorem call_enum1 {v : Value} {o : Obj} {H : Heap → Prop} {Q : Value → Shared → Prop} (B : Begins v o H) (h1 : H s.heap)
    (h : ∀ h', IsEnum h' (s.heap.objs.size + 1) s.heap.objs.size 0 .none → h'.get? s.heap.objs.size = some o → h'.objs.size = s.heap.objs.size + 2 →
      (∀ b o, s.heap.get? b = some o → h'.get? b = some o) → Q (.ref (s.heap.objs.size + 1)) { s with heap := h' }) :
    wpAny (model prog w) A (call (.type "enumerate") [v]) Q E s := by
  refine callType_new F.called_enumerate (by decide) (F.typeCall_enumerate_1 _) (F.newCall_enumerate_1 _) (fun obj => F.args_object_init_2 obj _) F.entry_enumerate_new
    (meets_enum1B B) ⟨h1, ?_⟩
  have hz : (s.heap.push o).objs.size = s.heap.objs.size + 1 := Heap.size_push ..
  show _ ∧ _
  rw [hz]
  have he : IsEnum ((s.heap.push o).push { cls := .type "enumerate", data := .fields #[.none, .bool false, .ref s.heap.objs.size, rawInt 0, .none, .none] }) (s.heap.objs.size + 1) s.heap.objs.size 0 .none := by
    have := Heap.get?_push_size (s.heap.push o) (o := { cls := .type "enumerate", data := .fields #[.none, .bool false, .ref s.heap.objs.size, rawInt 0, .none, .none] }) rfl
    rw [hz] at this; exact this
  refine ⟨⟨_, he, rfl⟩, h _ he (Heap.get?_push_of_some _ (Heap.get?_push_size _ B.free)) (by rw [Heap.size_push, hz]) fun b o x => Heap.get?_push_of_some _ (Heap.get?_push_of_some _ x)⟩
theorem call_enumK {k : Kd} (f : flatK k = true) {a : Addr} {xs : Array Value} {n : Nat} {Q : Value → Shared → Prop} (p : HasK k s.heap a xs)
    (h : ∀ h', IsEnum h' (s.heap.objs.size + 1) s.heap.objs.size 0 .none → ItK k h' s.heap.objs.size a 0 n → h'.objs.size = s.heap.objs.size + 2 →
      (∀ b o, s.heap.get? b = some o → h'.get? b = some o) → Q (.ref (s.heap.objs.size + 1)) { s with heap := h' }) :
    wpAny (model prog w) A (call (.type "enumerate") [.ref a]) Q E s := by
  cases k with
  | rvt => cases f
  | lst => exact call_enum1 (begins_list a xs) p fun h' he ho hz hk => h h' he (itK_new f ho) hz hk
  | tup => exact call_enum1 (begins_tuple a xs) p fun h' he ho hz hk => h h' he (itK_new f ho) hz hk
end
def iEnumK (K : PySem.W.Frag) (ta : TA) : TI := fun σ H R => ta σ H fun vs H1 => ∃ k a xs, flatK k = true ∧ vs = [.ref a] ∧ SqK k K H1 a xs ∧ R (IteK K k a xs.length) H1
theorem pi_enumK {X : Cx} {e : Expr} {ta : TA} {p pos tpos : Pos} {elts : List Expr} {kk : Nat} (hg : Gl X "enumerate") (hm : X.mg "enumerate" = none) (ha : PA X [e] ta) (hs : starEach [e] X.env = [(false, eval e X.env)] := by rfl) :
    PI X (.Tuple elts kk tpos) (.Call (.Name "enumerate" p) [e] [] pos) (iEnumK X.K ta) := by
  refine ⟨fun pins s σ H R I h => ?_⟩
  refine Call_ (ld_blt I hg hm boot_enumerate (PyProof.Rows.callWith_type1 (thn (ha.run pos pins s σ H _ I h) fun us s1 ⟨vs, H1, I1, r1, q1⟩ => ?_) hs rfl))
  obtain ⟨k, a, xs, fk, ex, hq, q⟩ := q1
  subst ex
  cases r1 with
  | cons r rr =>
    cases rr
    cases r
    obtain ⟨its, rv, p', hz⟩ := inv_seqK I1 hq
    have hal : a < s1.heap.objs.size := hasK_lt p'
    refine call_enumK (n := xs.length) fk p' fun h' he hit hsz hk => wpAny_pyIter_enum he ?_
    have I2 : Inv X pins σ H1 { s1 with heap := h' } := I1.kept (t' := s1.toks) hk
    refine ⟨s1.heap.objs.size + 1, [s1.heap.objs.size + 1, s1.heap.objs.size], _, _, H1, rfl, I2, turn_enumK (k := k) (a := a) (e := s1.heap.objs.size + 1) (it := s1.heap.objs.size) (n := xs.length) (Nat.ne_of_gt (Nat.lt_succ_of_lt hal)) (Nat.ne_of_lt hal), ⟨⟨.none, he⟩, hit, Nat.succ_ne_self _⟩, fun b hb => ?_, q⟩
    have e' : b = s1.heap.objs.size + 1 ∨ b = s1.heap.objs.size := by simpa using hb
    have hle : s1.heap.objs.size ≤ b := by
      rcases e' with z | z
      · rw [z]; exact Nat.le_add_right _ _
      · rw [z]; exact Nat.le_refl _
    exact I1.fpOk hle (I1.hok.fresh hle)

end Sk

/-! SkY: list(reversed(a list)); max(a list, default=d) -/
namespace Sk
open PySem PySem.Spec PyProof.Rows L2
section
variable {prog : Program} {w : World} {A : Around} {E : Value → Shared → Prop} {s : Shared}
theorem extend_rev {R : Result → Shared → Prop} {it l : Addr} {items : Array Value} (hh : A.handled = none) (hit : s.heap.IsRevIter it l ((items.size : Int) - 1)) (hl : s.heap.IsList l items) (hne : l ≠ it) (S : Addr) (hSi : S ≠ it) (hSl : S ≠ l) (res : Value) (c₀ : Nat) (hS : s.heap.get? S = some { cls := .type "list", data := .seq #[] c₀ })
    (hR : ∀ h' tk acc' c', (∀ b o, b ≠ S → b ≠ it → s.heap.get? b = some o → h'.get? b = some o) → h'.get? S = some { cls := .type "list", dict := none, data := .seq acc' c', slots := #[] } → ItemsOf (fun i v => items[items.size - 1 - i]? = some v) acc' items.size → R (.ok (.ret res)) { s with heap := h', toks := tk }) (hn : items.size ≤ sizeLine) :
    wpAny (model prog w) A.in1 (Builtin.List.listExtendWith (.ref S) (.ref it) res)
      (fun fin s' => match fin with | .done f => R (.ok f) s' | .again c' => c'.quiet = true ∧ codeAny (model prog w) A c' R s') (fun e s' => R (.error e) s') s := by
  have W := (Walks.listRev (prog := prog) (w := w) (A := A.in1) hh it l hne items).toS
  have hSf : S ∉ [it, l] := by simp only [List.mem_cons, List.not_mem_nil, or_false, not_or]; exact ⟨hSi, hSl⟩
  have hT : s.TypeIs (.ref it) "list_reverseiterator" := hit.typeIs
  have h1 : Builtin.List.listSameRef (.ref S) (.ref it) = false := by simp [Builtin.List.listSameRef, hSi]
  unfold Builtin.List.listExtendWith
  refine wpAny_bind (wpAny_typeOf hT ?_)
  rw [if_neg (by rw [h1]; decide)]
  refine wpAny_bind (wpAny_pyIter_revIter hit ?_)
  refine wpAny_bind (wpAny_holding ?_)
  unfold Builtin.List.listLengthHint
  refine wpAny_bind (wpAny_specialOf hT RT.nolen_lri ?_)
  show wpAny _ A.in1 (specialOf (Value.ref it) (Str.ofString "__length_hint__") >>= _) _ _ _
  refine wpAny_bind (wpAny_specialOf hT RT.hint_lri ?_)
  generalize hid : ("list_reverseiterator.__length_hint__" : String) = id0
  wp_delta
  rw [show splitId id0 = some ("list_reverseiterator", "__length_hint__") from by subst hid; decide +kernel]
  subst hid
  refine wpAny_bind (wpAny_isInstance (b := true) hT (by rw [isSubtype_type]; kernel_rfl) ?_)
  refine wpAny_pure ?_
  rw [if_neg (by decide)]
  have e0 : ((items.size : Nat) : Int) - 1 - ((0 : Nat) : Int) = (items.size : Int) - 1 := by omega
  refine wpAny_pure ⟨plainId_quiet PySem.F.plain_extend_loop _, codeAny_extend_loopS W hn _ hSf _ items.size 0 _ _ _ rfl (Nat.zero_le _) ⟨Nat.zero_le _, by rw [e0]; exact hit, hl⟩ hS (ItemsOf.nil _) fun s' acc' c' hm hS' hacc => ?_⟩
  rw [Moved.eq_with hm]
  refine hR s'.heap s'.toks acc' c' (fun b o hb hi e => hm.heap b o (fun hmem => ?_) e) hS' hacc
  rcases List.mem_cons.mp hmem with e' | hmem
  · exact hb e'
  · exact hi (List.mem_singleton.mp hmem)
theorem init_rev {R : Result → Shared → Prop} {it l : Addr} {items : Array Value} (hh : A.handled = none) (hit : s.heap.IsRevIter it l ((items.size : Int) - 1)) (hl : s.heap.IsList l items) (hne : l ≠ it) (S : Addr) (hSi : S ≠ it) (hSl : S ≠ l) (hS : s.heap.get? S = some { cls := .type "list", data := .seq #[] })
    (hR : ∀ h' tk acc' c', (∀ b o, b ≠ S → b ≠ it → s.heap.get? b = some o → h'.get? b = some o) → h'.get? S = some { cls := .type "list", dict := none, data := .seq acc' c', slots := #[] } → ItemsOf (fun i v => items[items.size - 1 - i]? = some v) acc' items.size → R (.ok (.ret .none)) { s with heap := h', toks := tk }) (hn : items.size ≤ sizeLine) :
    wpAny (model prog w) A.in1 (Builtin.«list.__init__» ⟨[.ref S, .ref it], []⟩)
      (fun fin s' => match fin with | .done f => R (.ok f) s' | .again c' => c'.quiet = true ∧ codeAny (model prog w) A c' R s') (fun e s' => R (.error e) s') s := by
  show wpAny _ _ (do let old ← Builtin.List.listItems (.ref S); Builtin.List.listUpdate (.ref S) (fun _ => #[]); letGo old.toList.reverse; Builtin.List.listExtendWith (.ref S) (.ref it) .none) _ _ s
  refine wpAny_bind ?_
  unfold Builtin.List.listItems
  refine wpAny_bind (wpAny_seqItems hS rfl (wpAny_pure ?_))
  show wpAny _ _ (updateSeq S (fun _ => #[]) >>= fun _ => letGo (#[] : Array Value).toList.reverse >>= fun _ => Builtin.List.listExtendWith (.ref S) (.ref it) .none) _ _ s
  refine wpAny_bind (wpAny_updateSeq hS rfl ?_)
  have hS₂ := Heap.get?_update_self (Obj.mapSeq (fun _ => (#[] : Array Value))) hS rfl
  have oth : ∀ b o, b ≠ S → s.heap.get? b = some o → (s.heap.update S (Obj.mapSeq (fun _ => (#[] : Array Value)))).get? b = some o :=
    fun b o hb e => (Heap.get?_update_other _ _ (Ne.symm hb)).trans e
  refine wpAny_bind (wpAny_letGo ?_)
  refine extend_rev hh (hit.at fun o e => oth it o hSi.symm e) (hl.at fun o e => oth l o hSl.symm e) hne S hSi hSl .none _ hS₂ (fun h' tk acc' c' hk hS' hacc => ?_) hn
  exact hR h' tk acc' c' (fun b o hb hi e => hk b o hb hi (oth b o hb e)) hS' hacc
theorem call_list_rev {Q : Value → Shared → Prop} {it l : Addr} {items : Array Value} (hh : A.handled = none) (hit : s.heap.IsRevIter it l ((items.size : Int) - 1)) (hl : s.heap.IsList l items) (hne : l ≠ it) (hn : items.size ≤ sizeLine)
    (hQ : ∀ h' tk acc' c', (∀ b o, b ≠ it → s.heap.get? b = some o → h'.get? b = some o) → h'.get? s.heap.objs.size = some { cls := .type "list", dict := none, data := .seq acc' c', slots := #[] } → ItemsOf (fun i v => items[items.size - 1 - i]? = some v) acc' items.size → Q (.ref s.heap.objs.size) { s with heap := h', toks := tk }) :
    wpAny (model prog w) A (call (.type "list") [.ref it]) Q E s := by
  obtain ⟨oi, hoi, _⟩ := id hit
  obtain ⟨ol, hol, _⟩ := id hl
  refine callType_codes (Q₁ := fun obj s₁ => obj = .ref s.heap.objs.size ∧ s₁ = { s with heap := s.heap.push { cls := .type "list", data := .seq #[] } }) PySem.F.called_list (PySem.F.typeCall_list_1 _) PySem.F.entry_list_init
    (code_list_new _ ⟨rfl, rfl⟩) fun obj s₁ h₁ => ?_
  obtain ⟨rfl, rfl⟩ := h₁
  have hS : (s.heap.push { cls := .type "list", data := .seq #[] }).get? s.heap.objs.size = some { cls := .type "list", data := .seq #[] } := Heap.get?_push_size _ rfl
  refine ⟨⟨_, hS, rfl⟩, PySem.F.args_list_init_2 _ _, init_rev (A := A.in1) hh (hit.at fun o e => Heap.get?_push_of_some _ e) (hl.push _) hne _ (Nat.ne_of_gt (Heap.lt_size hoi)) (Nat.ne_of_gt (Heap.lt_size hol)) hS (fun h' tk acc' c' hk hS' hacc => ?_) hn⟩
  exact ⟨rfl, hQ h' tk acc' c' (fun b o hi e => hk b o (Nat.ne_of_lt (Heap.lt_size e)) hi (Heap.get?_push_of_some _ e)) hS' hacc⟩
end
section
variable {X : Cx}
def tLstRev (K : PySem.W.Frag) (te : TE) : TE := fun σ H Q => te σ H fun v H1 => ∃ (a : Addr) (xs : List V), v = .ref a ∧ SqL K H1 a xs ∧ ∀ q, H1 q = none → Q (.ref q) (upd H1 q (.lst xs.reverse))
theorem pe_lstRev {e : Expr} {te : TE} {p p2 pos pos2 : Pos} (hc : X.calm = true) (hg : Gl X "list") (hm : X.mg "list" = none) (hg2 : Gl X "reversed") (hm2 : X.mg "reversed" = none) (he : PE X e te)
    (hs : starEach [e] X.env = (false, eval e X.env) :: starEach [] X.env := by rfl)
    (hs2 : starEach [.Call (.Name "reversed" p2) [e] [] pos2] X.env = (false, eval (.Call (.Name "reversed" p2) [e] [] pos2) X.env) :: starEach [] X.env := by rfl) :
    PE X (.Call (.Name "list" p) [.Call (.Name "reversed" p2) [e] [] pos2] [] pos) (tLstRev X.K te) := by
  refine ⟨fun pins s σ H Q I h => ?_⟩
  refine Call_ (ld_blt (u := .type "list") I hg hm (by decide +kernel) (PyProof.Rows.callWith_type1 (args_cons (Call_ (ld_blt I hg2 hm2 PyProof.Rows.boot_reversed (PyProof.Rows.callWith_type1 (args_cons (thn (he.run pins s σ H _ I h) fun u s1 ⟨v, H1, I1, r1, q1⟩ => args_nil ?_) hs) hs rfl))) hs2) hs2 rfl))
  obtain ⟨a, xs, ev, hq, q⟩ := q1
  subst ev
  obtain rfl : u = Value.ref a := r1
  obtain ⟨its, rv, p', hz⟩ := I1.list hq
  refine call_reversed_list p'.isList (args_nil ?_)
  have k0 : ∀ b o, s1.heap.get? b = some o → (s1.heap.push (revObj a ((its.toArray.size : Int) - 1))).get? b = some o := fun b o e => Heap.get?_push_of_some _ e
  have I2 : Inv X pins σ H1 { s1 with heap := s1.heap.push (revObj a ((its.toArray.size : Int) - 1)) } := I1.kept (t' := s1.toks) k0
  obtain ⟨f0, f1, f2, f3, f4, f5⟩ := I1.fpOk (H' := H1) (b := s1.heap.objs.size) (Nat.le_refl _) (I1.hok.fresh (Nat.le_refl _))
  have hl := p'.isList
  obtain ⟨ol, hol, _⟩ := id hl
  have hne : a ≠ s1.heap.objs.size := Nat.ne_of_lt (Heap.lt_size hol)
  have hn : its.toArray.size ≤ sizeLine := by rw [List.size_toArray, ← rv.length]; exact hz
  refine call_list_rev (s := { s1 with heap := s1.heap.push (revObj a ((its.toArray.size : Int) - 1)) }) (I1.ok.hd hc) ⟨_, Heap.get?_push_size _ rfl, rfl, rfl⟩ (hl.push _) hne hn fun h' tk acc c' hk hS hi => ?_
  have sz : (s1.heap.push (revObj a ((its.toArray.size : Int) - 1))).objs.size = s1.heap.objs.size + 1 := Heap.size_push ..
  have new : ObjOk X.prog X.w (upd H1 (s1.heap.push (revObj a ((its.toArray.size : Int) - 1))).objs.size (.lst xs.reverse)) h' (s1.heap.push (revObj a ((its.toArray.size : Int) - 1))).objs.size (.lst xs.reverse) :=
    ⟨by rw [List.length_reverse]; exact hz, acc.toList, c', RT.vals_rev rv hi, by rw [Array.toArray_toList]; exact hS⟩
  have I3 : Inv X pins σ (upd H1 (s1.heap.push (revObj a ((its.toArray.size : Int) - 1))).objs.size (.lst xs.reverse)) { s1 with heap := h', toks := tk } :=
    I2.turnedNew (t' := tk) (ch := [s1.heap.objs.size]) (fun b o hb e => hk b o (fun z => hb (by simp [z])) e) (fun b hb => by
      have e : b = s1.heap.objs.size := by simpa using hb
      subst e
      exact ⟨f0, f1, f2, f3, f4, f5⟩) (Nat.le_refl _) new
  exact ⟨.ref _, _, I3, rfl, q _ (I2.hok.fresh (Nat.le_refl _))⟩
end
section
variable {prog : Program} {w : World} {A : Around} {R : Result → Shared → Prop} {I : Addr} {fp wr : List Addr} {n : Nat} {P : Nat → Value → Prop} {St : Nat → Heap → Prop} {dv : Value}
abbrev dKw (dv : Value) : List (Str × Value) := [(Str.ofString "default", dv)]
/-- the turns of max behind its first item, a default beside -/
theorem maxd_loop (W : Walks prog w A.in1 I fp wr n P St) (bt : Nat → Nat → Bool) (hcmp : CmpOf prog w A.in1 .Gt P bt) (S : Addr) (hSf : S ∉ fp) :
    ∀ (k j : Nat) (s : Shared) (vb : Value) (c : Nat), n - (j + 1) = k → j + 1 ≤ n → St (j + 1) s.heap → P (argBest bt j) vb →
    s.heap.get? S = some { cls := .type "list", dict := none, data := .seq #[vb, vb] c, slots := #[] } →
    (∀ v h' tk, P (argBest bt (n - 1)) v → (∀ b o, b ∉ wr → b ≠ S → s.heap.get? b = some o → h'.get? b = some o) → R (.ok (.ret v)) { s with heap := h', toks := tk }) →
    codeAny (model prog w) A (.builtin "max.loop" ⟨[.ref I, .none, .ref S], dKw dv⟩) R s := by
  have hSw : S ∉ wr := fun h => hSf (W.sub _ h)
  have nm : (toString "max" ++ toString ".loop" : String) = "max.loop" := by decide
  intro k
  induction k with
  | zero =>
    intro j s vb c hk hj hst hPb hS hR
    have hin : j + 1 = n := by omega
    refine codeAny_builtin F.entry_max_loop ?_
    rw [Around.under_plainId F.plain_max_loop _]
    refine wpAny_bind (wpAny_seqItems hS rfl ?_)
    show wpAny _ A.in1 (tryCatch (pyNext (.ref I)) _ >>= _) _ _ s
    refine wpAny_bind (wpAny_tryCatch (W.done s _ _ (hin ▸ hst) fun h' tk hk' => ?_))
    have hS' := hk' S _ hSw hS
    refine wpAny_bind (m := updateSeq S (fun _ => #[])) ?_
    refine wpAny_updateSeq hS' rfl (wpAny_bind (wpAny_letGo (wpAny_pure ?_)))
    exact hR vb _ tk (by rw [← hin]; exact hPb) fun b o hbw hbS e => (Heap.get?_update_other _ _ (Ne.symm hbS)).trans (hk' b o hbw e)
  | succ k ih =>
    intro j s vb c hk hj hst hPb hS hR
    have hlt : j + 1 < n := by omega
    refine codeAny_builtin F.entry_max_loop ?_
    rw [Around.under_plainId F.plain_max_loop _]
    refine wpAny_bind (wpAny_seqItems hS rfl ?_)
    show wpAny _ A.in1 (tryCatch (pyNext (.ref I)) _ >>= _) _ _ s
    refine wpAny_bind (wpAny_tryCatch (W.item (j + 1) s _ _ hlt hst fun v h' tk hP hst' hk' => ?_))
    have hS' := hk' S _ hSw hS
    show wpAny _ A.in1 (tryCatch (holding [v, v] (richCompare .Gt v vb >>= _)) _ >>= _) _ _ _
    refine wpAny_bind (wpAny_tryCatch (wpAny_holding (wpAny_bind (hcmp (j + 1) (argBest bt j) v vb _ _ _ hP hPb ?_))))
    refine wpAny_bind (wpAny_holding (wpAny_truthy_bool ?_))
    refine wpAny_bind (wpAny_letGo (wpAny_pure ?_))
    cases hb : bt (j + 1) (argBest bt j) with
    | true =>
      simp only [if_true]
      refine wpAny_bind ?_
      refine wpAny_updateSeq hS' rfl (wpAny_bind (wpAny_letGo ?_))
      rw [nm]
      refine wpAny_pure ⟨plainId_quiet F.plain_max_loop _, ih (j + 1) _ v _ (by omega) hlt (W.frame _ _ _ hst' fun b hbf o e => ?_) (by simp only [argBest, hb, if_true]; exact hP) (Heap.get?_update_self _ hS' rfl)
        fun v' h'' tk'' hP' hk'' => ?_⟩
      · exact (Heap.get?_update_other _ _ (fun h : S = b => hSf (by rw [h]; exact hbf))).trans e
      · exact hR v' h'' tk'' hP' fun b o hbw hbS e => hk'' b o hbw hbS ((Heap.get?_update_other _ _ (Ne.symm hbS)).trans (hk' b o hbw e))
    | false =>
      simp only [Bool.false_eq_true, if_false]
      refine wpAny_bind (wpAny_letGo ?_)
      rw [nm]
      refine wpAny_pure ⟨plainId_quiet F.plain_max_loop _, ih (j + 1) _ vb c (by omega) hlt hst' (by simp only [argBest, hb, Bool.false_eq_true, if_false]; exact hPb) hS' fun v' h'' tk'' hP' hk'' => ?_⟩
      exact hR v' h'' tk'' hP' fun b o hbw hbS e => hk'' b o hbw hbS (hk' b o hbw e)
theorem maxd_first (W : Walks prog w A.in1 I fp wr n P St) (bt : Nat → Nat → Bool) (hcmp : CmpOf prog w A.in1 .Gt P bt) (S : Addr) (hSf : S ∉ fp) {s : Shared} {c : Nat} (hst : St 0 s.heap)
    (hS : s.heap.get? S = some { cls := .type "list", dict := none, data := .seq #[] c, slots := #[] })
    (h0 : n = 0 → ∀ h' tk, (∀ b o, b ∉ wr → b ≠ S → s.heap.get? b = some o → h'.get? b = some o) → R (.ok (.ret dv)) { s with heap := h', toks := tk })
    (hR : 0 < n → ∀ v h' tk, P (argBest bt (n - 1)) v → (∀ b o, b ∉ wr → b ≠ S → s.heap.get? b = some o → h'.get? b = some o) → R (.ok (.ret v)) { s with heap := h', toks := tk }) :
    codeAny (model prog w) A (.builtin "max.loop" ⟨[.ref I, .none, .ref S], dKw dv⟩) R s := by
  have hSw : S ∉ wr := fun h => hSf (W.sub _ h)
  have nm : (toString "max" ++ toString ".loop" : String) = "max.loop" := by decide
  refine codeAny_builtin F.entry_max_loop ?_
  rw [Around.under_plainId F.plain_max_loop _]
  refine wpAny_bind (wpAny_seqItems hS rfl ?_)
  show wpAny _ A.in1 (tryCatch (pyNext (.ref I)) _ >>= _) _ _ s
  by_cases hn : 0 < n
  · refine wpAny_bind (wpAny_tryCatch (W.item 0 s _ _ hn hst fun v h' tk hP hst' hk' => ?_))
    have hS' := hk' S _ hSw hS
    refine wpAny_bind (m := updateSeq S (fun _ => #[v, v])) ?_
    refine wpAny_updateSeq hS' rfl ?_
    rw [nm]
    refine wpAny_pure ⟨plainId_quiet F.plain_max_loop _, maxd_loop W bt hcmp S hSf _ 0 _ v _ rfl hn (W.frame _ _ _ hst' fun b hbf o e => ?_) hP (Heap.get?_update_self _ hS' rfl) fun v' h'' tk'' hP' hk'' => ?_⟩
    · exact (Heap.get?_update_other _ _ (fun h : S = b => hSf (by rw [h]; exact hbf))).trans e
    · exact hR hn v' h'' tk'' hP' fun b o hbw hbS e => hk'' b o hbw hbS ((Heap.get?_update_other _ _ (Ne.symm hbS)).trans (hk' b o hbw e))
  · have hn0 : n = 0 := by omega
    refine wpAny_bind (wpAny_tryCatch (W.done s _ _ (hn0 ▸ hst) fun h' tk hk' => ?_))
    refine wpAny_bind (wpAny_rule ?_)
    exact wpAny_pure (h0 hn0 h' tk fun b o hbw _ e => hk' b o hbw e)
end
section
variable {prog : Program} {w : World} {A : Around} {E : Value → Shared → Prop} {s : Shared} {l : Addr} {xs : Array (Int × Tok)}
theorem call_tree_kw {id : String} {b : Builtin} {args : List Value} {kw : List (Str × Value)} {Q : Value → Shared → Prop} (hk : builtinKind id = none) (hp : plainId id = true)
    (hb : entryFor table id = some b) (ha : argsOk id ⟨args, kw⟩)
    (hc : wpAny (model prog w) A.in1 (b ⟨args, kw⟩) (fun fin s' => match fin with
      | .done f => (match (Except.ok f : Result) with | .ok (.ret v) => Q v s' | .ok _ => False | .error e => E e s')
      | .again c' => c'.quiet = true ∧ codeAny (model prog w) A c' (fun r s' => match r with | .ok (.ret v) => Q v s' | .ok _ => False | .error e => E e s') s') E s) :
    wpAny (model prog w) A (call (.builtin id) args kw) Q E s := by
  refine wpAny_call (codeAny_call_builtin hp hb ?_)
  simp only [checkBuiltinCall, hk]
  cases hsig : Manifest.signature? id with
  | none => exact wpAny_pure hc
  | some sig =>
    have ha' : Bind.checkArgs id sig ⟨args, kw⟩ = pure () := by simpa only [argsOk, hsig] using ha
    simp only [ha']
    exact wpAny_pure hc
theorem args_maxd (a d : Value) : argsOk "max" ⟨[a], dKw d⟩ := by unfold argsOk; kernel_rfl
theorem call_maxd {dv : Value} {Q : Value → Shared → Prop} (hh : A.handled = none) (hl : s.heap.IsList l (intItems xs))
    (h0 : xs.size = 0 → ∀ h' tk, (∀ b o, s.heap.get? b = some o → h'.get? b = some o) → Q dv { s with heap := h', toks := tk })
    (h : 0 < xs.size → ∀ v h' tk, (intItems xs)[argBest (fun i j => decide (numAt xs i > numAt xs j)) (xs.size - 1)]? = some v → (∀ b o, s.heap.get? b = some o → h'.get? b = some o) → Q v { s with heap := h', toks := tk }) :
    wpAny (model prog w) A (call (.builtin "max") [.ref l] (dKw dv)) Q E s := by
  have nm : (toString "max" ++ toString ".loop" : String) = "max.loop" := by decide
  refine call_tree_kw F.kind_max F.plain_max F.entry_max (args_maxd _ _) ?_
  show wpAny _ A.in1 (Builtin.Builtins.bindParams "max" ["key", "default"] 0 ⟨[], dKw dv⟩ >>= _) _ _ s
  refine wpAny_bind (wpAny_of_eq (show Builtin.Builtins.bindParams "max" ["key", "default"] 0 ⟨[], dKw dv⟩ = pure [none, some dv] from rfl) ?_)
  refine wpAny_bind (wpAny_pure ?_)
  refine wpAny_bind (iter_intList (A := A.in1) hl fun s₂ e st hfp hlI => ?_)
  subst e
  refine wpAny_bind (wpAny_newObj_type ?_)
  have W := Walks.list (prog := prog) (w := w) (A := A.in1) hh s.heap.objs.size l hlI (intItems xs)
  have hSf : (s.heap.push { cls := .type "list_iterator", data := .fields #[.ref l, .int 0 0] }).objs.size ∉ [s.heap.objs.size, l] := fun hm => Nat.lt_irrefl _ (hfp _ hm)
  rw [nm]
  have kp : ∀ {h' : Heap}, (∀ b o, b ∉ [s.heap.objs.size] → b ≠ (s.heap.push { cls := .type "list_iterator", data := .fields #[.ref l, .int 0 0] }).objs.size → ((s.heap.push { cls := .type "list_iterator", data := .fields #[.ref l, .int 0 0] }).push { cls := .type "list", data := .seq ([] : List Value).toArray }).get? b = some o → h'.get? b = some o) → ∀ b o, s.heap.get? b = some o → h'.get? b = some o := by
    intro h' hk b o e
    have hb := Heap.lt_size e
    refine hk b o (fun hm => ?_) (fun z => ?_) (Heap.get?_push_of_some _ (Heap.get?_push_of_some _ e))
    · rw [List.mem_singleton.mp hm] at hb; exact Nat.lt_irrefl _ hb
    · rw [Heap.size_push] at z; rw [z] at hb; exact Nat.lt_irrefl _ (Nat.lt_of_succ_lt hb)
  refine wpAny_pure ⟨plainId_quiet F.plain_max_loop _, maxd_first W (fun i j => decide (numAt xs i > numAt xs j)) (CmpOf.ints_gt (numAt xs) (fun _ _ => intItems_at)) _ hSf (W.frame _ _ _ st fun b _ o e => Heap.get?_push_of_some _ e) (Heap.get?_push_size _ rfl) (fun hn h' tk hk => ?_) fun hn v h' tk hP hk => ?_⟩
  · exact h0 (by simpa [intItems] using hn) h' tk (kp hk)
  · exact h (by simpa [intItems] using hn) v h' tk (by simpa [intItems] using hP) (kp hk)
end
section
variable {X : Cx}
def rMaxDef (K : PySem.W.Frag) : List V → List V → Hp → VK → Prop := fun vs zs H Q => ∃ (a : Addr) (ns : List Int) (d : Int), vs = [V.ref a] ∧ zs = [V.int d] ∧ SqL K H a (ns.map V.int) ∧ (ns = [] → Q (.int d) H) ∧ ∀ m, m ∈ ns → (∀ y, y ∈ ns → y ≤ m) → Q (.int m) H
theorem cr_maxDef (hc : X.calm = true) : CallRK X (.builtin "max") [Str.ofString "default"] (rMaxDef X.K) := by
  intro pins s σ H vs zs us ws Q I r r2 h
  obtain ⟨a, ns, d, rfl, rfl, hs, q0, q⟩ := h
  obtain ⟨its, rv, hl, _⟩ := I.list hs
  rw [Vals.ref1 r]
  cases r2 with
  | cons r2 rr =>
    cases rr
    obtain ⟨t, rfl⟩ := r2
    have hi := rv.ints
    obtain ⟨xs, e⟩ := hi.allInts.items
    have hn : numsOf (intItems xs).toList = ns := by rw [← e]; exact hi.numsOf
    rw [nums_intItems] at hn
    subst hn
    have hl' := hl.isList
    rw [e] at hl'
    refine call_maxd (I.ok.hd hc) hl' (fun h0 h' tk hk => ⟨.int _, H, I.kept hk, ⟨_, rfl⟩, q0 ?_⟩) fun hsz v h' tk hv hk => ?_
    · rw [List.map_eq_nil_iff]
      exact List.eq_nil_of_length_eq_zero (by simpa using h0)
    · obtain ⟨t', rfl⟩ := intItems_at hv
      obtain ⟨h1, h2⟩ := argBest_gt (numAt xs) (xs.size - 1)
      refine ⟨.int _, H, I.kept hk, ⟨_, rfl⟩, q _ ?_ fun a ha => ?_⟩
      · rw [numAt_eq]; exact PySem.getD_mem (by rw [List.length_map, Array.length_toList]; omega)
      · obtain ⟨j, hj, rfl⟩ := mem_getD ha
        rw [List.length_map, Array.length_toList] at hj
        rw [← numAt_eq]; exact h2 j (by omega)
end
end Sk

/-! SkV: list(zip(a list, a list)) -/
namespace Sk
open PySem PySem.Spec PyProof.Rows L2
theorem nolen_zip : typeLookup (.type "zip") "__len__" = pure none := am_miss_of_fast (by decide +kernel)
theorem nohint_zip : typeLookup (.type "zip") "__length_hint__" = pure none := am_miss_of_fast (by decide +kernel)
/-- pairs that stand each in a new tuple -/
def PairsOf (H1 H2 : Hp) (xs ys ps : List V) : Prop := ∀ (j : Nat) (p : V), ps[j]? = some p → ∃ T x y, p = .ref T ∧ H1 T = none ∧ H2 T = some (.tup [x, y]) ∧ xs[j]? = some x ∧ ys[j]? = some y
def ZipSt (z TI TO i1 i2 a b S : Addr) (i : Nat) (h : Heap) : Prop :=
  (∃ o, h.get? TO = some o) ∧ IsPair h TI (.ref i1) (.ref i2) ∧ h.IsListIter i1 a i ∧ h.IsListIter i2 b i ∧
    ((IsZip h z TI TO .none ∧ ∃ u v, IsPair h TO u v) ∨ ∃ T f oT, IsZipHeld h z TI TO T f ∧ h.get? T = some oT ∧ T ≠ z ∧ T ≠ i1 ∧ T ≠ i2 ∧ T ≠ S)
theorem upd_swap {H : Hp} {a b : Addr} {o u : HO} (h : a ≠ b) : upd (upd H a o) b u = upd (upd H b u) a o := by
  funext c
  unfold upd
  by_cases h1 : c = b
  · subst h1; rw [if_pos rfl, if_neg (fun e => h e.symm), if_pos rfl]
  · rw [if_neg h1, if_neg h1]
theorem sqL_grown {K : PySem.W.Frag} {H H' : Hp} {a : Addr} {xs : List V} (h : SqL K H a xs) (g : ∀ o, H a = some o → H' a = some o) : SqL K H' a xs := by
  rcases h with (h | ⟨o, h⟩) | h
  · exact .inl (.inl (g _ h))
  · exact .inl (.inr ⟨o, g _ h⟩)
  · exact .inr h
section
variable {X : Cx} {pins : List (Addr × Obj)} {σ : L2.St} {A : Around} {R : Result → Shared → Prop} {z TI TO i1 i2 a b S : Addr} {xs ys : List V} {H1 : Hp} {res : Value}
theorem zip_loop (hh : A.in1.handled = none) (D : ZipApart z TI TO i1 i2 a b) (hm : min xs.length ys.length ≤ sizeLine) (hSz : S ≠ z) (hSI : S ≠ TI) (hSO : S ≠ TO) (hS1 : S ≠ i1) (hS2 : S ≠ i2) (hSa : S ≠ a) (hSb : S ≠ b) (qa : SqL X.K H1 a xs) (qb : SqL X.K H1 b ys)
    (hR : ∀ s H2 ps, Inv X pins σ (upd H2 S (.lst ps)) s → (∀ c o, H1 c = some o → H2 c = some o) → H2 S = none → ps.length = min xs.length ys.length → PairsOf H1 H2 xs ys ps → R (.ok (.ret res)) s) :
    ∀ (k i : Nat) (s : Shared) (H2 : Hp) (ps : List V), min xs.length ys.length - i = k → i ≤ min xs.length ys.length → Inv X pins σ (upd H2 S (.lst ps)) s → (∀ c o, H1 c = some o → H2 c = some o) → H2 S = none → ps.length = i → PairsOf H1 H2 xs ys ps →
      (∀ c ∈ [z, TI, TO, i1, i2], FpOk X pins (upd H2 S (.lst ps)) c) → ZipSt z TI TO i1 i2 a b S i s.heap → codeAny (model X.prog X.w) A (.builtin "list.extend.loop" ⟨[.ref S, .ref z, res], []⟩) R s := by
  have reads : ∀ {s : Shared} {H2 : Hp} {ps : List V}, Inv X pins σ (upd H2 S (.lst ps)) s → (∀ c o, H1 c = some o → H2 c = some o) → H2 S = none →
      (∃ us, Vals xs us ∧ s.heap.IsList a us.toArray) ∧ ∃ us, Vals ys us ∧ s.heap.IsList b us.toArray := fun {s H2 ps} I g hn => by
    obtain ⟨its, rv, p, _⟩ := I.list (sqL_grown qa fun o e => by rw [upd_ne (Ne.symm hSa)]; exact g _ _ e)
    obtain ⟨its2, rv2, p2, _⟩ := I.list (sqL_grown qb fun o e => by rw [upd_ne (Ne.symm hSb)]; exact g _ _ e)
    exact ⟨⟨its, rv, p.isList⟩, its2, rv2, p2.isList⟩
  intro k
  induction k with
  | zero =>
    intro i s H2 ps hk hi I g hn hl hp hf st
    have ei : i = min xs.length ys.length := by omega
    obtain ⟨⟨us, rv, l1⟩, us2, rv2, l2⟩ := reads I g hn
    obtain ⟨hO, hTI, h1, h2, hz⟩ := st
    have hend : us.toArray[i]? = none ∨ us2.toArray[i]? = none := by
      have e1 := rv.length
      have e2 := rv2.length
      rcases Nat.le_total xs.length ys.length with q | q
      · exact .inl (Array.getElem?_eq_none (by rw [List.size_toArray, ← e1]; omega))
      · exact .inr (Array.getElem?_eq_none (by rw [List.size_toArray, ← e2]; omega))
    have fin : ∀ h' : Heap, (∀ c o, c ≠ z → c ≠ TO → c ≠ i1 → c ≠ i2 → s.heap.get? c = some o → h'.get? c = some o) → R (.ok (.ret res)) { s with heap := h' } := fun h' kp =>
      hR _ H2 ps (I.turnedL (t' := s.toks) (ch := [z, TI, TO, i1, i2]) (fun c o hc e => kp c o (fun q => hc (by simp [q])) (fun q => hc (by simp [q])) (fun q => hc (by simp [q])) (fun q => hc (by simp [q])) e) hf) g hn (by rw [hl, ei]) hp
    refine codeAny_builtin PySem.F.entry_extend_loop (by
      rw [Around.under_plainId PySem.F.plain_extend_loop _]
      show wpAny _ A.in1 (pyNext (.ref z) >>= _) _ _ s
      refine wpAny_bind ?_
      rcases hz with ⟨hz, u, v, hTO⟩ | ⟨T, f, oT, hz, hT, t1, t2, t3, t4⟩
      · exact wpAny_pyNext_zip_end hh D hz hTI hTO h1 h2 l1 l2 hend fun h' kp => wpAny_pure (fin h' kp)
      · exact wpAny_pyNext_zip_end_held hh D hz hT hTI h1 h2 l1 l2 hend fun h' kp => wpAny_pure (fin h' fun c o c1 _ c2 c3 e => kp c o c1 c2 c3 e))
  | succ k ih =>
    intro i s H2 ps hk hi I g hn hl hp hf st
    have hx : i < xs.length := by omega
    have hy : i < ys.length := by omega
    obtain ⟨⟨us, rv, l1⟩, us2, rv2, l2⟩ := reads I g hn
    obtain ⟨hO, hTI, h1, h2, hz⟩ := st
    obtain ⟨x, ex, rx⟩ := rv.get (List.getElem?_eq_getElem hx)
    obtain ⟨y, ey, ry⟩ := rv2.get (List.getElem?_eq_getElem hy)
    have ex' : us.toArray[i]? = some x := by simpa using ex
    have ey' : us2.toArray[i]? = some y := by simpa using ey
    have hin : ∀ {c : Addr} {o : Obj}, s.heap.get? c = some o → c ≠ s.heap.objs.size := fun e => Nat.ne_of_lt (Heap.lt_size e)
    obtain ⟨zo, its, nS, rS, _, eS⟩ := I.lstM (l := S) (xs := ps) upd_same
    have TS : s.heap.objs.size ≠ S := (hin eS).symm
    have turn : ∀ h' : Heap, IsPair h' s.heap.objs.size x y → (∀ c o, c ≠ z → c ≠ TO → c ≠ i1 → c ≠ i2 → s.heap.get? c = some o → h'.get? c = some o) → ZipSt z TI TO i1 i2 a b S (i + 1) h' →
        wpAny (model X.prog X.w) A.in1 (do updateSeq S (·.push (.ref s.heap.objs.size)); again (.builtin "list.extend.loop" ⟨[.ref S, .ref z, res], []⟩))
          (fun fin s' => match fin with | .done f => R (.ok f) s' | .again c' => c'.quiet = true ∧ codeAny (model X.prog X.w) A c' R s') (fun e s' => R (.error e) s') { s with heap := h' } := fun h' hT kp st' => by
      have new : ObjOk X.prog X.w (upd (upd H2 S (.lst ps)) s.heap.objs.size (.tup [xs[i], ys[i]])) h' s.heap.objs.size (.tup [xs[i], ys[i]]) :=
        ⟨by show 2 ≤ sizeLine; decide, [x, y], .cons rx (.cons ry .nil), ⟨_, hT, rfl, _, rfl⟩⟩
      have I1 : Inv X pins σ (upd (upd H2 S (.lst ps)) s.heap.objs.size (.tup [xs[i], ys[i]])) { s with heap := h' } :=
        I.turnedNew (t' := s.toks) (ch := [z, TI, TO, i1, i2]) (fun c o hc e => kp c o (fun q => hc (by simp [q])) (fun q => hc (by simp [q])) (fun q => hc (by simp [q])) (fun q => hc (by simp [q])) e) hf (Nat.le_refl _) new
      rw [upd_swap (Ne.symm TS)] at I1
      have hnT : H2 s.heap.objs.size = none := by
        have q := I.hok.fresh (Nat.le_refl _)
        rw [upd_ne TS] at q
        exact q
      have eS' : h'.get? S = some { cls := .type "list", data := .seq its.toArray nS } := kp S _ hSz hSO hS1 hS2 eS
      have lenS : its.length = i := by rw [← rS.length, hl]
      refine wpAny_bind (wpAny_updateSeq eS' rfl ?_ (by rw [List.size_toArray]; omega) (by show (its.toArray.push _).size ≤ _; rw [Array.size_push, List.size_toArray]; omega))
      have I2 : Inv X pins σ (upd (upd (upd H2 s.heap.objs.size (.tup [xs[i], ys[i]])) S (.lst ps)) S (.lst (ps ++ [.ref s.heap.objs.size]))) { s with heap := h'.update S (Obj.mapSeq (·.push (.ref s.heap.objs.size))) } :=
        I1.lset (t' := s.toks) (its' := its ++ [.ref s.heap.objs.size]) upd_same eS' (by simp) (rS.append (.cons (show RelV (V.ref s.heap.objs.size) (Value.ref s.heap.objs.size) from rfl) .nil)) (by rw [List.length_append]; simp only [List.length_cons, List.length_nil]; omega)
      rw [upd_upd] at I2
      have keepS : ∀ c o, c ≠ S → h'.get? c = some o → (h'.update S (Obj.mapSeq (·.push (.ref s.heap.objs.size)))).get? c = some o := fun c o hc e => (Heap.get?_update_other _ _ (Ne.symm hc)).trans e
      refine wpAny_pure ⟨plainId_quiet PySem.F.plain_extend_loop _, ih (i + 1) _ (upd H2 s.heap.objs.size (.tup [xs[i], ys[i]])) (ps ++ [.ref s.heap.objs.size]) (by omega) (by omega) I2 (fun c o e => ?_) ?_ (by rw [List.length_append, hl]; rfl) (fun j p e => ?_) (fun c hc => ?_) ?_⟩
      · rw [upd_ne (ne_of_none (g c o e) hnT)]
        exact g c o e
      · rw [upd_ne (Ne.symm TS)]
        exact hn
      · by_cases hj : j < ps.length
        · rw [List.getElem?_append_left hj] at e
          obtain ⟨T, u, v, q1, q2, q3, q4, q5⟩ := hp j p e
          exact ⟨T, u, v, q1, q2, by rw [upd_ne (ne_of_none q3 hnT)]; exact q3, q4, q5⟩
        · have ej : j = i := by
            have := (List.getElem?_eq_some_iff.mp e).1
            rw [List.length_append] at this
            simp only [List.length_cons, List.length_nil] at this
            omega
          subst ej
          rw [List.getElem?_append_right (by omega), hl] at e
          simp at e
          refine ⟨_, _, _, e.symm, ?_, upd_same, List.getElem?_eq_getElem hx, List.getElem?_eq_getElem hy⟩
          cases q : H1 s.heap.objs.size with
          | none => rfl
          | some o => rw [g _ _ q] at hnT; cases hnT
      · obtain ⟨c1, c2, c3, c4, c5, c6⟩ := hf c hc
        have cS : c ≠ S := fun e => by rw [e, upd_same] at c1; cases c1
        rw [upd_ne cS] at c1
        have there : ∃ o, s.heap.get? c = some o := by
          simp only [List.mem_cons, List.not_mem_nil, or_false] at hc
          rcases hc with rfl | rfl | rfl | rfl | rfl
          · rcases hz with ⟨hz, _⟩ | ⟨T, f, oT, hz, _⟩ <;> exact ⟨_, hz⟩
          · exact ⟨_, hTI⟩
          · exact hO
          · obtain ⟨o, e, _⟩ := h1; exact ⟨o, e⟩
          · obtain ⟨o, e, _⟩ := h2; exact ⟨o, e⟩
        obtain ⟨o, e⟩ := there
        exact ⟨by rw [upd_ne cS, upd_ne (hin e)]; exact c1, c2, c3, c4, c5, c6⟩
      · obtain ⟨⟨oO, q0⟩, q1, q2, q3, q4⟩ := st'
        refine ⟨⟨oO, keepS _ _ (Ne.symm hSO) q0⟩, keepS _ _ (Ne.symm hSI) q1, q2.at fun o e => keepS _ o (Ne.symm hS1) e, q3.at fun o e => keepS _ o (Ne.symm hS2) e, ?_⟩
        rcases q4 with ⟨q4, u, v, q5⟩ | ⟨T, f, oT, q4, q5, q6, q7, q8, q9⟩
        · exact .inl ⟨keepS _ _ (Ne.symm hSz) q4, u, v, keepS _ _ (Ne.symm hSO) q5⟩
        · exact .inr ⟨T, f, oT, keepS _ _ (Ne.symm hSz) q4, keepS _ _ q9 q5, q6, q7, q8, q9⟩
    refine codeAny_builtin PySem.F.entry_extend_loop (by
      rw [Around.under_plainId PySem.F.plain_extend_loop _]
      show wpAny _ A.in1 (pyNext (.ref z) >>= _) _ _ s
      refine wpAny_bind ?_
      have n1 : s.heap.objs.size ≠ i1 := by obtain ⟨o, e, _⟩ := h1; exact (hin e).symm
      have n2 : s.heap.objs.size ≠ i2 := by obtain ⟨o, e, _⟩ := h2; exact (hin e).symm
      rcases hz with ⟨hz, u, v, hTO⟩ | ⟨T, f, oT, hz, hT, t1, t2, t3, t4⟩
      · exact wpAny_pyNext_zip_item D hz hTI hTO h1 h2 l1 l2 ex' ey' fun h' b1 b2 b3 b4 b5 b6 kp =>
          turn h' b5 kp ⟨⟨_, b2⟩, kp _ _ D.TIz D.TITO D.TIi1 D.TIi2 hTI, b3, b4, .inr ⟨s.heap.objs.size, false, _, b1, b5, (hin hz).symm, n1, n2, TS⟩⟩
      · exact wpAny_pyNext_zip_item_held D hz hT hTI h1 h2 l1 l2 ex' ey' fun h' b1 b3 b4 b5 b6 kp =>
          turn h' b5 (fun c o c1 _ c2 c3 e => kp c o c1 c2 c3 e) ⟨let ⟨o, e⟩ := hO; ⟨o, kp _ _ D.TOz D.TOi1 D.TOi2 e⟩, kp _ _ D.TIz D.TIi1 D.TIi2 hTI, b3, b4, .inr ⟨T, true, oT, b1, kp _ _ t1 t2 t3 hT, t1, t2, t3, t4⟩⟩)
theorem zipApartK (I l1 l2 : Nat) (h1 : l1 < I) (h2 : l2 < I) : ZipApart (I + 4) (I + 2) (I + 3) I (I + 1) l1 l2 := by
  constructor <;> (refine ne_lt ?_; omega)
/-- list(zip(x, y)) of two lists -/
def tLstZip (K : PySem.W.Frag) (ta : TA) : TE := fun σ H Q => ta σ H fun vs H1 => ∃ (a b : Addr) (xs ys : List V), vs = [.ref a, .ref b] ∧ SqL K H1 a xs ∧ SqL K H1 b ys ∧
  ∀ S H2 ps, (∀ c o, H1 c = some o → H2 c = some o) → H2 S = none → ps.length = min xs.length ys.length → PairsOf H1 H2 xs ys ps → Q (.ref S) (upd H2 S (.lst ps))
theorem pe_lstZip {e e2 : Expr} {ta : TA} {p p2 pos pos2 : Pos} (hc : X.calm = true) (hg : Gl X "list") (hm : X.mg "list" = none) (hg2 : Gl X "zip") (hm2 : X.mg "zip" = none) (ha : PA X [e, e2] ta)
    (hs : starEach [e, e2] X.env = (false, eval e X.env) :: starEach [e2] X.env := by rfl) (hpl : (backTo pos2 (starEach [e2] X.env)).any (·.1) = false := by rfl)
    (hs2 : starEach [.Call (.Name "zip" p2) [e, e2] [] pos2] X.env = (false, eval (.Call (.Name "zip" p2) [e, e2] [] pos2) X.env) :: starEach [] X.env := by rfl) :
    PE X (.Call (.Name "list" p) [.Call (.Name "zip" p2) [e, e2] [] pos2] [] pos) (tLstZip X.K ta) := by
  refine ⟨fun pins s σ H Q I h => ?_⟩
  refine Call_ (ld_blt (u := .type "list") I hg hm (by decide +kernel) (PyProof.Rows.callWith_type1 (args_cons (Call_ (ld_blt I hg2 hm2 PyProof.Rows.boot_zip (PyProof.Rows.callWith_type1 (thn (ha.run pos2 pins s σ H _ I h) fun us s1 ⟨vs, H1, I1, r1, q1⟩ => ?_) hs hpl))) hs2) hs2 rfl))
  obtain ⟨a, b, xs, ys, ex, qa, qb, q⟩ := q1
  subst ex
  cases r1 with | cons r rr =>
  cases rr with | cons r' rr =>
  cases rr
  cases r
  cases r'
  obtain ⟨its, rv, p1, z1⟩ := I1.list qa
  obtain ⟨its2, rv2, p2', z2⟩ := I1.list qb
  have la := hasK_lt (k := .lst) p1.isList
  have lb := hasK_lt (k := .lst) p2'.isList
  refine call_zipK (k1 := .lst) (k2 := .lst) (n1 := xs.length) (n2 := ys.length) rfl rfl p1.isList p2'.isList fun h' hz hTI hTO h1 h2 hk => args_nil ?_
  have I2 : Inv X pins σ H1 { s1 with heap := h' } := I1.kept (t' := s1.toks) hk
  have fresh : ∀ c, c ∈ [s1.heap.objs.size + 4, s1.heap.objs.size + 2, s1.heap.objs.size + 3, s1.heap.objs.size, s1.heap.objs.size + 1] → FpOk X pins H1 c := fun c hcm => by
    have hle : s1.heap.objs.size ≤ c := by
      simp only [List.mem_cons, List.not_mem_nil, or_false] at hcm
      rcases hcm with z | z | z | z | z <;> rw [z] <;> first | exact Nat.le_add_right _ _ | exact Nat.le_refl _
    exact I1.fpOk hle (I1.hok.fresh hle)
  have D := zipApartK s1.heap.objs.size a b la lb
  have zlt : ∀ {c : Addr} {o : Obj}, h'.get? c = some o → c < h'.objs.size := fun e => Heap.lt_size e
  refine callType_codes (Q₁ := fun obj s₁ => obj = .ref h'.objs.size ∧ s₁ = { s1 with heap := h'.push { cls := .type "list", data := .seq #[] } }) PySem.F.called_list (PySem.F.typeCall_list_1 _) PySem.F.entry_list_init
    (code_list_new _ ⟨rfl, rfl⟩) fun obj s₁ h₁ => ?_
  obtain ⟨rfl, rfl⟩ := h₁
  have hS : (h'.push { cls := .type "list", data := .seq #[] }).get? h'.objs.size = some { cls := .type "list", data := .seq #[] } := Heap.get?_push_size _ rfl
  refine ⟨⟨_, hS, rfl⟩, PySem.F.args_list_init_2 _ _, ?_⟩
  have I3 := I2.lnew (t' := s1.toks) (ys := []) (its := []) .nil (Nat.zero_le _)
  have nS : ∀ {c : Addr} {o : Obj}, h'.get? c = some o → h'.objs.size ≠ c := fun e => Nat.ne_of_gt (zlt e)
  have la' : h'.objs.size ≠ a := by obtain ⟨o, e, _⟩ := p1.isList; exact nS (hk _ _ e)
  have lb' : h'.objs.size ≠ b := by obtain ⟨o, e, _⟩ := p2'.isList; exact nS (hk _ _ e)
  have n1 : h'.objs.size ≠ s1.heap.objs.size := by obtain ⟨o, e, _⟩ := h1; exact nS e
  have n2 : h'.objs.size ≠ s1.heap.objs.size + 1 := by obtain ⟨o, e, _⟩ := h2; exact nS e
  have hfS : H1 h'.objs.size = none := I2.hok.fresh (Nat.le_refl _)
  have up : ∀ {c : Addr} {o : Obj}, h'.get? c = some o → (h'.push { cls := .type "list", data := .seq ([] : List Value).toArray }).get? c = some o := fun e => Heap.get?_push_of_some _ e
  show wpAny _ _ (do let old ← Builtin.List.listItems (.ref h'.objs.size); Builtin.List.listUpdate (.ref h'.objs.size) (fun _ => #[]); letGo old.toList.reverse; Builtin.List.listExtendWith (.ref h'.objs.size) (.ref (s1.heap.objs.size + 4)) .none) _ _ _
  refine wpAny_bind ?_
  unfold Builtin.List.listItems
  refine wpAny_bind (wpAny_seqItems hS rfl (wpAny_pure ?_))
  show wpAny _ _ (updateSeq h'.objs.size (fun _ => #[]) >>= fun _ => letGo (#[] : Array Value).toList.reverse >>= fun _ => Builtin.List.listExtendWith (.ref h'.objs.size) (.ref (s1.heap.objs.size + 4)) .none) _ _ _
  refine wpAny_bind (wpAny_updateSeq hS rfl ?_)
  have I4 := I3.lset (t' := s1.toks) (f := fun _ => #[]) (its' := []) (ys := []) upd_same hS rfl .nil (Nat.zero_le _)
  rw [upd_upd] at I4
  have hS4 := Heap.get?_update_self (Obj.mapSeq (fun _ => (#[] : Array Value))) hS rfl
  have k4 : ∀ {c : Addr} {o : Obj}, h'.objs.size ≠ c → h'.get? c = some o → ((h'.push { cls := .type "list", data := .seq #[] }).update h'.objs.size (Obj.mapSeq (fun _ => (#[] : Array Value)))).get? c = some o :=
    fun hc e => (Heap.get?_update_other _ _ hc).trans (Heap.get?_push_of_some _ e)
  refine wpAny_bind (wpAny_letGo ?_)
  have hz4 := k4 (nS hz) hz
  have hT4 : (⟨(h'.push { cls := .type "list", data := .seq #[] }).update h'.objs.size (Obj.mapSeq (fun _ => (#[] : Array Value))), s1.gens, s1.drawn, s1.toks, s1.os⟩ : Shared).TypeIs (.ref (s1.heap.objs.size + 4)) "zip" := ⟨_, hz4, rfl⟩
  unfold Builtin.List.listExtendWith
  refine wpAny_bind (wpAny_typeOf hT4 ?_)
  have nz : Builtin.List.listSameRef (.ref h'.objs.size) (.ref (s1.heap.objs.size + 4)) = false := by simp [Builtin.List.listSameRef, nS hz]
  rw [if_neg (by rw [nz]; decide)]
  refine wpAny_bind (wpAny_pyIter_zip hz4 ?_)
  refine wpAny_bind (wpAny_holding ?_)
  unfold Builtin.List.listLengthHint
  refine wpAny_bind (wpAny_specialOf hT4 nolen_zip ?_)
  show wpAny _ X.A.in1.in1 (specialOf (Value.ref (s1.heap.objs.size + 4)) (Str.ofString "__length_hint__") >>= _) _ _ _
  refine wpAny_bind (wpAny_specialOf hT4 nohint_zip ?_)
  refine wpAny_pure ?_
  show wpAny _ X.A.in1.in1 (rule "list.extend.makes-room" >>= fun _ => Builtin.List.listTouch (.ref h'.objs.size) >>= fun _ => again (.builtin "list.extend.loop" ⟨[.ref h'.objs.size, .ref (s1.heap.objs.size + 4), .none], []⟩)) _ _ _
  refine wpAny_bind (wpAny_rule (wpAny_bind ?_))
  show wpAny _ X.A.in1.in1 (updateSeq h'.objs.size (·.push .none) >>= fun _ => updateSeq h'.objs.size (·.pop)) _ _ _
  refine wpAny_bind (wpAny_updateSeq hS4 rfl ?_)
  have I5 := I4.lset (t' := s1.toks) (f := (·.push .none)) (its' := [.none]) (ys := [.non]) upd_same hS4 rfl (.cons rfl .nil) (by decide)
  rw [upd_upd] at I5
  have hS5 := Heap.get?_update_self (Obj.mapSeq (·.push Value.none)) hS4 rfl
  refine wpAny_updateSeq hS5 rfl ?_
  have I6 := I5.lset (t' := s1.toks) (f := (·.pop)) (its' := []) (ys := []) upd_same hS5 rfl .nil (Nat.zero_le _)
  rw [upd_upd] at I6
  have k6 : ∀ {c : Addr} {o : Obj}, h'.get? c = some o → ((((h'.push { cls := .type "list", data := .seq #[] }).update h'.objs.size (Obj.mapSeq (fun _ => (#[] : Array Value)))).update h'.objs.size (Obj.mapSeq (·.push Value.none))).update h'.objs.size (Obj.mapSeq (·.pop))).get? c = some o :=
    fun e => (Heap.get?_update_other _ _ (nS e)).trans ((Heap.get?_update_other _ _ (nS e)).trans (k4 (nS e) e))
  refine wpAny_pure ⟨plainId_quiet PySem.F.plain_extend_loop _, ?_⟩
  refine zip_loop (A := X.A.in1) (pins := pins) (σ := σ) (H1 := H1) (xs := xs) (ys := ys) (I1.ok.hd hc) D ?_ (nS hz) (nS hTI) (nS hTO) n1 n2 la' lb' qa qb (fun s' H2 ps I g hn hl hp => ?_) _ 0 _ H1 [] rfl (Nat.zero_le _) I6 (fun _ _ e => e) hfS rfl (fun j p e => by simp at e) (fun c hcm => ?_) ?_
  · exact Nat.le_trans (Nat.min_le_left _ _) z1
  · exact ⟨rfl, ⟨.ref h'.objs.size, _, I, rfl, q _ _ _ g hn hl hp⟩⟩
  · have cS : c ≠ h'.objs.size := by
      simp only [List.mem_cons, List.not_mem_nil, or_false] at hcm
      rcases hcm with rfl | rfl | rfl | rfl | rfl
      · exact (nS hz).symm
      · exact (nS hTI).symm
      · exact (nS hTO).symm
      · exact n1.symm
      · exact n2.symm
    obtain ⟨c1, c2, c3, c4, c5, c6⟩ := fresh c hcm
    exact ⟨by rw [upd_ne cS]; exact c1, c2, c3, c4, c5, c6⟩
  · exact ⟨⟨_, k6 hTO⟩, k6 hTI, Heap.IsListIter.at h1 fun o e => k6 e, Heap.IsListIter.at h2 fun o e => k6 e, .inl ⟨k6 hz, _, _, k6 hTO⟩⟩
end
end Sk

/-! SkU: tuple(zip(x, y)), x and y lists or tuples -/
namespace Sk
open PySem PySem.Spec PyProof.Rows L2
section
variable {prog : Program} {w : World} {A : Around} {E : Value → Shared → Prop} {s : Shared} {z TI TO T i1 i2 : Addr} {fp1 fp2 : List Addr} {n1 n2 i : Nat} {P1 P2 : Nat → Value → Prop} {St1 St2 : Nat → Heap → Prop} {f : Bool} {oT : Obj}
/-- a pair more, while the pair ahead of it is still there -/
theorem pairHeld_more {Q : Value → Shared → Prop} (S : ZipSep2 z TI TO i1 i2 fp1 fp2) (D1 : Draws prog w A i1 fp1 n1 P1 St1) (D2 : Draws prog w A i2 fp2 n2 P2 St2)
    (gz : IsZipHeld s.heap z TI TO T f) (gT : s.heap.get? T = some oT) (gI : IsPair s.heap TI (.ref i1) (.ref i2)) (st1 : St1 i s.heap) (st2 : St2 i s.heap) (lt1 : i < n1) (lt2 : i < n2)
    (q : ∀ x y h' tk, P1 i x → P2 i y → IsZipHeld h' z TI TO T true → St1 (i + 1) h' → St2 (i + 1) h' → IsPair h' s.heap.objs.size x y →
      (∀ c o, c ≠ z → c ≠ i1 → c ≠ i2 → s.heap.get? c = some o → h'.get? c = some o) → Q (.ref s.heap.objs.size) { s with heap := h', toks := tk }) :
    wpAny (model prog w) A (Builtin.«zip.__next__» ⟨[.ref z], []⟩) (fun fin s' => ∃ v, fin = .done (.ret v) ∧ Q v s') E s := by
  obtain ⟨hp, g, d, tk0, os⟩ := s
  refine PySem.wpAny_bind (m := PySem.field (.ref z) 2) (wpAny_field gz rfl (x := .bool false) rfl ?_)
  refine PySem.wpAny_bind (m := PySem.field (.ref z) 3) (wpAny_field gz rfl (x := .ref TI) rfl ?_)
  refine PySem.wpAny_bind (wpAny_seqItems gI rfl ?_)
  refine PySem.wpAny_bind (m := Builtin.SmallTypes.ownedTupleIsFree (.ref z)) (wpAny_tupleHeld_zip gz gT fun g1 b1 b2 => ?_)
  replace b2 : Heap.SameBut z hp g1 := b2
  simp only [Bool.false_eq_true, if_false]
  refine PySem.wpAny_bind ?_
  rw [← Array.forIn_toList]
  simp only [List.forIn_cons, List.forIn_nil]
  refine PySem.wpAny_bind (PySem.wpAny_bind (wpAny_holding ?_))
  refine PySem.wpAny_bind (m := Builtin.SmallTypes.nextOf (.ref i1)) (D1.item i ⟨g1, g, d, tk0, os⟩ _ _ lt1 (D1.over st1 b2 S.zf1) fun x g2 tk1 px st1' c2 => wpAny_pure ?_)
  replace c2 : Heap.SameBut i1 g1 g2 := c2
  refine wpAny_pure (PySem.wpAny_bind (PySem.wpAny_bind (wpAny_holding ?_)))
  refine PySem.wpAny_bind (m := Builtin.SmallTypes.nextOf (.ref i2)) (D2.item i ⟨g2, g, d, tk1, os⟩ _ _ lt2 (D2.over (D2.over st2 b2 S.zf2) c2 S.sep1_2) fun y g3 tk2 py st2' c3 => wpAny_pure ?_)
  replace c3 : Heap.SameBut i2 g2 g3 := c3
  refine wpAny_pure (wpAny_pure ?_)
  refine PySem.wpAny_bind (m := newTuple [x, y]) (wpAny_newTuple ?_)
  have size3 : g3.objs.size = hp.objs.size := by rw [c3.1, c2.1, b2.1]
  have z3 : IsZipHeld g3 z TI TO T true := c3.extBut _ _ S.zi2 (c2.extBut _ _ S.zi1 b1)
  have keep : ∀ c o, c ≠ z → c ≠ i1 → c ≠ i2 → hp.get? c = some o → g3.get? c = some o := fun c o h1 h2 h3 e => c3.extBut _ _ h3 (c2.extBut _ _ h2 (b2.extBut _ _ h1 e))
  have up : ∀ c o, g3.get? c = some o → (g3.push { cls := .type "tuple", data := .seq #[x, y] }).get? c = some o := fun c o e => Heap.get?_push_of_some _ e
  refine wpAny_pure ⟨_, rfl, ?_⟩
  have pr : IsPair (g3.push { cls := .type "tuple", data := .seq #[x, y] }) g3.objs.size x y := Heap.get?_push_size _ rfl
  show Q (.ref g3.objs.size) ⟨g3.push { cls := .type "tuple", data := .seq #[x, y] }, g, d, tk2, os⟩
  rw [size3] at pr ⊢
  exact q x y _ tk2 px py (up _ _ z3) (D1.frame _ _ _ (D1.over st1' c3 S.sep2_1) fun b _ o e => up b o e) (D2.frame _ _ _ st2' fun b _ o e => up b o e) pr fun c o h1 h2 h3 e => up c o (keep c o h1 h2 h3 e)
theorem pairHeld_over {Q : Fin → Shared → Prop} (S : ZipSep2 z TI TO i1 i2 fp1 fp2) (D1 : Draws prog w A i1 fp1 n1 P1 St1) (D2 : Draws prog w A i2 fp2 n2 P2 St2)
    (gz : IsZipHeld s.heap z TI TO T f) (gT : s.heap.get? T = some oT) (gI : IsPair s.heap TI (.ref i1) (.ref i2)) (st1 : St1 i s.heap) (st2 : St2 i s.heap) (le1 : i ≤ n1) (le2 : i ≤ n2) (ends : i = n1 ∨ i = n2)
    (q : ∀ h' tk e, (∀ c o, c ≠ z → c ≠ i1 → c ≠ i2 → s.heap.get? c = some o → h'.get? c = some o) → (∃ o, h'.get? e = some o ∧ o.cls = .type "StopIteration") → E (.ref e) { s with heap := h', toks := tk }) :
    wpAny (model prog w) A (Builtin.«zip.__next__» ⟨[.ref z], []⟩) Q E s := by
  obtain ⟨hp, g, d, tk0, os⟩ := s
  refine PySem.wpAny_bind (m := PySem.field (.ref z) 2) (wpAny_field gz rfl (x := .bool false) rfl ?_)
  refine PySem.wpAny_bind (m := PySem.field (.ref z) 3) (wpAny_field gz rfl (x := .ref TI) rfl ?_)
  refine PySem.wpAny_bind (wpAny_seqItems gI rfl ?_)
  refine PySem.wpAny_bind (m := Builtin.SmallTypes.ownedTupleIsFree (.ref z)) (wpAny_tupleHeld_zip gz gT fun g1 b1 b2 => ?_)
  replace b2 : Heap.SameBut z hp g1 := b2
  simp only [Bool.false_eq_true, if_false]
  refine PySem.wpAny_bind ?_
  rw [← Array.forIn_toList]
  simp only [List.forIn_cons, List.forIn_nil]
  refine PySem.wpAny_bind (PySem.wpAny_bind (wpAny_holding ?_))
  by_cases lt1 : i < n1
  · refine PySem.wpAny_bind (m := Builtin.SmallTypes.nextOf (.ref i1)) (D1.item i ⟨g1, g, d, tk0, os⟩ _ _ lt1 (D1.over st1 b2 S.zf1) fun x g2 tk1 px st1' c2 => wpAny_pure ?_)
    replace c2 : Heap.SameBut i1 g1 g2 := c2
    have e2 : i = n2 := by omega
    refine wpAny_pure (PySem.wpAny_bind (PySem.wpAny_bind (wpAny_holding ?_)))
    refine PySem.wpAny_bind (m := Builtin.SmallTypes.nextOf (.ref i2)) (D2.done ⟨g2, g, d, tk1, os⟩ _ _ (by rw [← e2]; exact D2.over (D2.over st2 b2 S.zf2) c2 S.sep1_2) fun g3 e c3 he => ?_)
    exact q g3 tk1 e (fun c o h1 h2 h3 x => c3 _ _ h3 (c2.extBut _ _ h2 (b2.extBut _ _ h1 x))) he
  · have e1 : i = n1 := by omega
    refine PySem.wpAny_bind (m := Builtin.SmallTypes.nextOf (.ref i1)) (D1.done ⟨g1, g, d, tk0, os⟩ _ _ (by rw [← e1]; exact D1.over st1 b2 S.zf1) fun g2 e c2 he => ?_)
    exact q g2 tk0 e (fun c o h1 h2 h3 x => c2 _ _ h2 (b2.extBut _ _ h1 x)) he
theorem nextHeld_more {Q : Option Value → Shared → Prop} (S : ZipSep2 z TI TO i1 i2 fp1 fp2) (D1 : Draws prog w A.in1 i1 fp1 n1 P1 St1) (D2 : Draws prog w A.in1 i2 fp2 n2 P2 St2)
    (gz : IsZipHeld s.heap z TI TO T f) (gT : s.heap.get? T = some oT) (gI : IsPair s.heap TI (.ref i1) (.ref i2)) (st1 : St1 i s.heap) (st2 : St2 i s.heap) (lt1 : i < n1) (lt2 : i < n2)
    (q : ∀ x y h' tk, P1 i x → P2 i y → IsZipHeld h' z TI TO T true → St1 (i + 1) h' → St2 (i + 1) h' → IsPair h' s.heap.objs.size x y →
      (∀ c o, c ≠ z → c ≠ i1 → c ≠ i2 → s.heap.get? c = some o → h'.get? c = some o) → Q (some (.ref s.heap.objs.size)) { s with heap := h', toks := tk }) :
    wpAny (model prog w) A (pyNext (.ref z)) Q E s := by
  have ty : s.TypeIs (.ref z) "zip" := ⟨_, gz, rfl⟩
  unfold pyNext
  exact PySem.wpAny_bind (wpAny_attempt (wpAny_callSpecial?_slot (name := Str.ofString "__next__") ty PySem.F.slot_zip_next
    (wpAny_call_entry PySem.F.slot_zip_next ty PySem.F.entry_zip_next (pairHeld_more S D1 D2 gz gT gI st1 st2 lt1 lt2 fun x y h' tk a1 a2 a3 a4 a5 a6 a7 => wpAny_pure (q x y h' tk a1 a2 a3 a4 a5 a6 a7)) (PySem.F.args_zip_next_1 _))))
theorem nextHeld_over {Q : Option Value → Shared → Prop} (S : ZipSep2 z TI TO i1 i2 fp1 fp2) (D1 : Draws prog w A.in1 i1 fp1 n1 P1 St1) (D2 : Draws prog w A.in1 i2 fp2 n2 P2 St2)
    (gz : IsZipHeld s.heap z TI TO T f) (gT : s.heap.get? T = some oT) (gI : IsPair s.heap TI (.ref i1) (.ref i2)) (st1 : St1 i s.heap) (st2 : St2 i s.heap) (le1 : i ≤ n1) (le2 : i ≤ n2) (ends : i = n1 ∨ i = n2)
    (q : ∀ h' tk, (∀ c o, c ≠ z → c ≠ i1 → c ≠ i2 → s.heap.get? c = some o → h'.get? c = some o) → Q none { s with heap := h', toks := tk }) :
    wpAny (model prog w) A (pyNext (.ref z)) Q E s := by
  have ty : s.TypeIs (.ref z) "zip" := ⟨_, gz, rfl⟩
  unfold pyNext
  refine PySem.wpAny_bind (wpAny_attempt (wpAny_callSpecial?_slot (name := Str.ofString "__next__") ty PySem.F.slot_zip_next
    (wpAny_call_entry PySem.F.slot_zip_next ty PySem.F.entry_zip_next (pairHeld_over S D1 D2 gz gT gI st1 st2 le1 le2 ends fun h' tk e hk he => ?_) (PySem.F.args_zip_next_1 _))))
  obtain ⟨o, ho, hc⟩ := he
  exact PySem.wpAny_bind (wpAny_isInstance (T := "StopIteration") (b := true) ⟨o, ho, hc⟩ isSubtype_stop (wpAny_pure (q _ _ hk)))
end
def ZipStK (k1 k2 : Kd) (z TI TO i1 i2 a b S : Addr) (n1 n2 i : Nat) (h : Heap) : Prop :=
  (∃ o, h.get? TO = some o) ∧ IsPair h TI (.ref i1) (.ref i2) ∧ ItK k1 h i1 a i n1 ∧ ItK k2 h i2 b i n2 ∧
    ((IsZip h z TI TO .none ∧ ∃ u v, IsPair h TO u v) ∨ ∃ T f oT, IsZipHeld h z TI TO T f ∧ h.get? T = some oT ∧ T ≠ z ∧ T ≠ i1 ∧ T ≠ i2 ∧ T ≠ S)
theorem itK_is {k : Kd} {h : Heap} {it a : Addr} {i n : Nat} (st : ItK k h it a i n) : ∃ o, h.get? it = some o := by
  obtain ⟨o, e, _⟩ := itK_obj st
  exact ⟨o, e⟩
theorem sqK_grown {K : PySem.W.Frag} {k : Kd} {H H' : Hp} {a : Addr} {xs : List V} (fl : flatK k = true) (h : SqK k K H a xs) (g : ∀ o, H a = some o → H' a = some o) : SqK k K H' a xs := by
  cases k with
  | rvt => cases fl
  | lst => exact sqL_grown h g
  | tup =>
    rcases h with (h | ⟨o, h⟩) | h
    · exact .inl (.inl (g _ h))
    · exact .inl (.inr ⟨o, g _ h⟩)
    · exact .inr h
section
variable {X : Cx} {pins : List (Addr × Obj)} {σ : L2.St} {A : Around} {R : Result → Shared → Prop} {k1 k2 : Kd} {z TI TO i1 i2 a b S : Addr} {xs ys : List V} {H1 : Hp} {res : Value}
theorem zip_loopK (f1 : flatK k1 = true) (f2 : flatK k2 = true) (hh : A.in1.handled = none) (D : ZipSep2 z TI TO i1 i2 [i1, a] [i2, b]) (hai : a ≠ i1) (hbi : b ≠ i2) (hm : min xs.length ys.length ≤ sizeLine) (hSz : S ≠ z) (hSI : S ≠ TI) (hSO : S ≠ TO) (hS1 : S ≠ i1) (hS2 : S ≠ i2) (hSa : S ≠ a) (hSb : S ≠ b) (qa : SqK k1 X.K H1 a xs) (qb : SqK k2 X.K H1 b ys)
    (hR : ∀ s H2 ps, Inv X pins σ (upd H2 S (.lst ps)) s → (∀ c o, H1 c = some o → H2 c = some o) → H2 S = none → ps.length = min xs.length ys.length → PairsOf H1 H2 xs ys ps → R (.ok (.ret res)) s) :
    ∀ (k i : Nat) (s : Shared) (H2 : Hp) (ps : List V), min xs.length ys.length - i = k → i ≤ min xs.length ys.length → Inv X pins σ (upd H2 S (.lst ps)) s → (∀ c o, H1 c = some o → H2 c = some o) → H2 S = none → ps.length = i → PairsOf H1 H2 xs ys ps →
      (∀ c ∈ [z, TI, TO, i1, i2], FpOk X pins (upd H2 S (.lst ps)) c) → ZipStK k1 k2 z TI TO i1 i2 a b S xs.length ys.length i s.heap → codeAny (model X.prog X.w) A (.builtin "list.extend.loop" ⟨[.ref S, .ref z, res], []⟩) R s := by
  have reads : ∀ {s : Shared} {H2 : Hp} {ps : List V}, Inv X pins σ (upd H2 S (.lst ps)) s → (∀ c o, H1 c = some o → H2 c = some o) → H2 S = none →
      (∃ us, Vals xs us ∧ HasK k1 s.heap a us.toArray ∧ xs.length ≤ sizeLine) ∧ ∃ us, Vals ys us ∧ HasK k2 s.heap b us.toArray ∧ ys.length ≤ sizeLine := fun {s H2 ps} I g hn => by
    obtain ⟨its, rv, p, l1⟩ := inv_seqK I (sqK_grown f1 qa fun o e => by rw [upd_ne (Ne.symm hSa)]; exact g _ _ e)
    obtain ⟨its2, rv2, p2, l2⟩ := inv_seqK I (sqK_grown f2 qb fun o e => by rw [upd_ne (Ne.symm hSb)]; exact g _ _ e)
    exact ⟨⟨its, rv, p, l1⟩, its2, rv2, p2, l2⟩
  intro k
  induction k with
  | zero =>
    intro i s H2 ps hk hi I g hn hl hp hf st
    have ei : i = min xs.length ys.length := by omega
    obtain ⟨⟨us, rv, l1, z1⟩, us2, rv2, l2, z2⟩ := reads I g hn
    obtain ⟨hO, hTI, h1, h2, hz⟩ := st
    have m1 : us.toArray.size = xs.length := by rw [List.size_toArray, ← rv.length]
    have m2 : us2.toArray.size = ys.length := by rw [List.size_toArray, ← rv2.length]
    have D1 := drawsK (prog := X.prog) (w := X.w) (A := A.in1.in1) k1 hh i1 a hai us.toArray (by rw [m1]; exact z1)
    have D2 := drawsK (prog := X.prog) (w := X.w) (A := A.in1.in1) k2 hh i2 b hbi us2.toArray (by rw [m2]; exact z2)
    have s1 : i ≤ us.toArray.size ∧ ItK k1 s.heap i1 a i us.toArray.size ∧ HasK k1 s.heap a us.toArray := ⟨by omega, by rw [m1]; exact h1, l1⟩
    have s2 : i ≤ us2.toArray.size ∧ ItK k2 s.heap i2 b i us2.toArray.size ∧ HasK k2 s.heap b us2.toArray := ⟨by omega, by rw [m2]; exact h2, l2⟩
    have fin : ∀ (h' : Heap) (tk : Nat), (∀ c o, c ≠ z → c ≠ TO → c ≠ i1 → c ≠ i2 → s.heap.get? c = some o → h'.get? c = some o) → R (.ok (.ret res)) { s with heap := h', toks := tk } := fun h' tk kp =>
      hR _ H2 ps (I.turnedL (t' := tk) (ch := [z, TI, TO, i1, i2]) (fun c o hc e => kp c o (fun q => hc (by simp [q])) (fun q => hc (by simp [q])) (fun q => hc (by simp [q])) (fun q => hc (by simp [q])) e) hf) g hn (by rw [hl, ei]) hp
    refine codeAny_builtin PySem.F.entry_extend_loop (by
      rw [Around.under_plainId PySem.F.plain_extend_loop _]
      show wpAny _ A.in1 (pyNext (.ref z) >>= _) _ _ s
      refine wpAny_bind ?_
      rcases hz with ⟨hz, u, v, hTO⟩ | ⟨T, f, oT, hz, hT, t1, t2, t3, t4⟩
      · exact wpAny_pyNext_zipD2_end (i := i) D D1 D2 hz hTI hTO s1 s2 (by omega) (by omega) (by omega) fun h' tk kp => wpAny_pure (fin h' tk kp)
      · exact nextHeld_over (i := i) D D1 D2 hz hT hTI s1 s2 (by omega) (by omega) (by omega) fun h' tk kp => wpAny_pure (fin h' tk fun c o c1 _ c2 c3 e => kp c o c1 c2 c3 e))
  | succ k ih =>
    intro i s H2 ps hk hi I g hn hl hp hf st
    have hx : i < xs.length := by omega
    have hy : i < ys.length := by omega
    obtain ⟨⟨us, rv, l1, z1⟩, us2, rv2, l2, z2⟩ := reads I g hn
    obtain ⟨hO, hTI, h1, h2, hz⟩ := st
    have m1 : us.toArray.size = xs.length := by rw [List.size_toArray, ← rv.length]
    have m2 : us2.toArray.size = ys.length := by rw [List.size_toArray, ← rv2.length]
    have D1 := drawsK (prog := X.prog) (w := X.w) (A := A.in1.in1) k1 hh i1 a hai us.toArray (by rw [m1]; exact z1)
    have D2 := drawsK (prog := X.prog) (w := X.w) (A := A.in1.in1) k2 hh i2 b hbi us2.toArray (by rw [m2]; exact z2)
    have s1 : i ≤ us.toArray.size ∧ ItK k1 s.heap i1 a i us.toArray.size ∧ HasK k1 s.heap a us.toArray := ⟨by omega, by rw [m1]; exact h1, l1⟩
    have s2 : i ≤ us2.toArray.size ∧ ItK k2 s.heap i2 b i us2.toArray.size ∧ HasK k2 s.heap b us2.toArray := ⟨by omega, by rw [m2]; exact h2, l2⟩
    obtain ⟨x, ex, rx⟩ := rv.get (List.getElem?_eq_getElem hx)
    obtain ⟨y, ey, ry⟩ := rv2.get (List.getElem?_eq_getElem hy)
    have ex' : us.toArray[i]? = some x := by simpa using ex
    have ey' : us2.toArray[i]? = some y := by simpa using ey
    have hin : ∀ {c : Addr} {o : Obj}, s.heap.get? c = some o → c ≠ s.heap.objs.size := fun e => Nat.ne_of_lt (Heap.lt_size e)
    obtain ⟨zo, its, nS, rS, _, eS⟩ := I.lstM (l := S) (xs := ps) upd_same
    have TS : s.heap.objs.size ≠ S := (hin eS).symm
    have turn : ∀ (h' : Heap) (tk : Nat), IsPair h' s.heap.objs.size x y → (∀ c o, c ≠ z → c ≠ TO → c ≠ i1 → c ≠ i2 → s.heap.get? c = some o → h'.get? c = some o) → ZipStK k1 k2 z TI TO i1 i2 a b S xs.length ys.length (i + 1) h' →
        wpAny (model X.prog X.w) A.in1 (do updateSeq S (·.push (.ref s.heap.objs.size)); again (.builtin "list.extend.loop" ⟨[.ref S, .ref z, res], []⟩))
          (fun fin s' => match fin with | .done f => R (.ok f) s' | .again c' => c'.quiet = true ∧ codeAny (model X.prog X.w) A c' R s') (fun e s' => R (.error e) s') { s with heap := h', toks := tk } := fun h' tk hT kp st' => by
      have new : ObjOk X.prog X.w (upd (upd H2 S (.lst ps)) s.heap.objs.size (.tup [xs[i], ys[i]])) h' s.heap.objs.size (.tup [xs[i], ys[i]]) :=
        ⟨by show 2 ≤ sizeLine; decide, [x, y], .cons rx (.cons ry .nil), ⟨_, hT, rfl, _, rfl⟩⟩
      have I1 : Inv X pins σ (upd (upd H2 S (.lst ps)) s.heap.objs.size (.tup [xs[i], ys[i]])) { s with heap := h', toks := tk } :=
        I.turnedNew (t' := tk) (ch := [z, TI, TO, i1, i2]) (fun c o hc e => kp c o (fun q => hc (by simp [q])) (fun q => hc (by simp [q])) (fun q => hc (by simp [q])) (fun q => hc (by simp [q])) e) hf (Nat.le_refl _) new
      rw [upd_swap (Ne.symm TS)] at I1
      have hnT : H2 s.heap.objs.size = none := by
        have q := I.hok.fresh (Nat.le_refl _)
        rw [upd_ne TS] at q
        exact q
      have eS' : h'.get? S = some { cls := .type "list", data := .seq its.toArray nS } := kp S _ hSz hSO hS1 hS2 eS
      have lenS : its.length = i := by rw [← rS.length, hl]
      refine wpAny_bind (wpAny_updateSeq eS' rfl ?_ (by rw [List.size_toArray]; omega) (by show (its.toArray.push _).size ≤ _; rw [Array.size_push, List.size_toArray]; omega))
      have I2 : Inv X pins σ (upd (upd (upd H2 s.heap.objs.size (.tup [xs[i], ys[i]])) S (.lst ps)) S (.lst (ps ++ [.ref s.heap.objs.size]))) { s with heap := h'.update S (Obj.mapSeq (·.push (.ref s.heap.objs.size))), toks := tk } :=
        I1.lset (t' := tk) (its' := its ++ [.ref s.heap.objs.size]) upd_same eS' (by simp) (rS.append (.cons (show RelV (V.ref s.heap.objs.size) (Value.ref s.heap.objs.size) from rfl) .nil)) (by rw [List.length_append]; simp only [List.length_cons, List.length_nil]; omega)
      rw [upd_upd] at I2
      have keepS : ∀ c o, c ≠ S → h'.get? c = some o → (h'.update S (Obj.mapSeq (·.push (.ref s.heap.objs.size)))).get? c = some o := fun c o hc e => (Heap.get?_update_other _ _ (Ne.symm hc)).trans e
      refine wpAny_pure ⟨plainId_quiet PySem.F.plain_extend_loop _, ih (i + 1) _ (upd H2 s.heap.objs.size (.tup [xs[i], ys[i]])) (ps ++ [.ref s.heap.objs.size]) (by omega) (by omega) I2 (fun c o e => ?_) ?_ (by rw [List.length_append, hl]; rfl) (fun j p e => ?_) (fun c hc => ?_) ?_⟩
      · rw [upd_ne (ne_of_none (g c o e) hnT)]
        exact g c o e
      · rw [upd_ne (Ne.symm TS)]
        exact hn
      · by_cases hj : j < ps.length
        · rw [List.getElem?_append_left hj] at e
          obtain ⟨T, u, v, q1, q2, q3, q4, q5⟩ := hp j p e
          exact ⟨T, u, v, q1, q2, by rw [upd_ne (ne_of_none q3 hnT)]; exact q3, q4, q5⟩
        · have ej : j = i := by
            have := (List.getElem?_eq_some_iff.mp e).1
            rw [List.length_append] at this
            simp only [List.length_cons, List.length_nil] at this
            omega
          subst ej
          rw [List.getElem?_append_right (by omega), hl] at e
          simp at e
          refine ⟨_, _, _, e.symm, ?_, upd_same, List.getElem?_eq_getElem hx, List.getElem?_eq_getElem hy⟩
          cases q : H1 s.heap.objs.size with
          | none => rfl
          | some o => rw [g _ _ q] at hnT; cases hnT
      · obtain ⟨c1, c2, c3, c4, c5, c6⟩ := hf c hc
        have cS : c ≠ S := fun e => by rw [e, upd_same] at c1; cases c1
        rw [upd_ne cS] at c1
        have there : ∃ o, s.heap.get? c = some o := by
          simp only [List.mem_cons, List.not_mem_nil, or_false] at hc
          rcases hc with rfl | rfl | rfl | rfl | rfl
          · rcases hz with ⟨hz, _⟩ | ⟨T, f, oT, hz, _⟩ <;> exact ⟨_, hz⟩
          · exact ⟨_, hTI⟩
          · exact hO
          · exact itK_is h1
          · exact itK_is h2
        obtain ⟨o, e⟩ := there
        exact ⟨by rw [upd_ne cS, upd_ne (hin e)]; exact c1, c2, c3, c4, c5, c6⟩
      · obtain ⟨⟨oO, q0⟩, q1, q2, q3, q4⟩ := st'
        refine ⟨⟨oO, keepS _ _ (Ne.symm hSO) q0⟩, keepS _ _ (Ne.symm hSI) q1, itK_at q2 fun o e => keepS _ o (Ne.symm hS1) e, itK_at q3 fun o e => keepS _ o (Ne.symm hS2) e, ?_⟩
        rcases q4 with ⟨q4, u, v, q5⟩ | ⟨T, f, oT, q4, q5, q6, q7, q8, q9⟩
        · exact .inl ⟨keepS _ _ (Ne.symm hSz) q4, u, v, keepS _ _ (Ne.symm hSO) q5⟩
        · exact .inr ⟨T, f, oT, keepS _ _ (Ne.symm hSz) q4, keepS _ _ q9 q5, q6, q7, q8, q9⟩
    refine codeAny_builtin PySem.F.entry_extend_loop (by
      rw [Around.under_plainId PySem.F.plain_extend_loop _]
      show wpAny _ A.in1 (pyNext (.ref z) >>= _) _ _ s
      refine wpAny_bind ?_
      have p1 : s.heap.objs.size ≠ i1 := by obtain ⟨o, e⟩ := itK_is h1; exact (hin e).symm
      have p2 : s.heap.objs.size ≠ i2 := by obtain ⟨o, e⟩ := itK_is h2; exact (hin e).symm
      have same1 : ∀ {u}, us.toArray[i]? = some u → u = x := fun e => Option.some.inj (e.symm.trans ex')
      have same2 : ∀ {u}, us2.toArray[i]? = some u → u = y := fun e => Option.some.inj (e.symm.trans ey')
      rcases hz with ⟨hz, u, v, hTO⟩ | ⟨T, f, oT, hz, hT, t1, t2, t3, t4⟩
      · exact wpAny_pyNext_zipD2_item (i := i) D D1 D2 hz hTI hTO s1 s2 (by omega) (by omega) fun x1 x2 h' tk e1 e2 b1 b2 b3 b4 b5 b6 kp => by
          obtain rfl := same1 e1
          obtain rfl := same2 e2
          exact turn h' tk b5 kp ⟨⟨_, b2⟩, kp _ _ D.TIz D.TITO D.TIi1 D.TIi2 hTI, by rw [← m1]; exact b3.2.1, by rw [← m2]; exact b4.2.1, .inr ⟨s.heap.objs.size, false, _, b1, b5, (hin hz).symm, p1, p2, TS⟩⟩
      · exact nextHeld_more (i := i) D D1 D2 hz hT hTI s1 s2 (by omega) (by omega) fun x1 x2 h' tk e1 e2 b1 b3 b4 b5 kp => by
          obtain rfl := same1 e1
          obtain rfl := same2 e2
          exact turn h' tk b5 (fun c o c1 _ c2 c3 e => kp c o c1 c2 c3 e) ⟨let ⟨o, e⟩ := hO; ⟨o, kp _ _ D.TOz D.Ti1 D.Ti2 e⟩, kp _ _ D.TIz D.TIi1 D.TIi2 hTI, by rw [← m1]; exact b3.2.1, by rw [← m2]; exact b4.2.1, .inr ⟨T, true, oT, b1, kp _ _ t1 t2 t3 hT, t1, t2, t3, t4⟩⟩)
end
section
variable {X : Cx} {pins : List (Addr × Obj)} {σ : L2.St} {A : Around} {E : Value → Shared → Prop} {k1 k2 : Kd} {z TI TO i1 i2 a b : Addr} {xs ys : List V} {H1 : Hp} {s : Shared}
theorem collectZ {Q : List Value → Shared → Prop} (f1 : flatK k1 = true) (f2 : flatK k2 = true) (hh : A.handled = none) (D : ZipSep2 z TI TO i1 i2 [i1, a] [i2, b]) (hai : a ≠ i1) (hbi : b ≠ i2) (hm : min xs.length ys.length ≤ sizeLine) (qa : SqK k1 X.K H1 a xs) (qb : SqK k2 X.K H1 b ys)
    (I : Inv X pins σ H1 s) (hz : IsZip s.heap z TI TO .none) (hTI : IsPair s.heap TI (.ref i1) (.ref i2)) (hTO : ∃ u v, IsPair s.heap TO u v) (h1 : ItK k1 s.heap i1 a 0 xs.length) (h2 : ItK k2 s.heap i2 b 0 ys.length) (hf : ∀ c ∈ [z, TI, TO, i1, i2], FpOk X pins H1 c)
    (hQ : ∀ s' H2 ps us, Inv X pins σ H2 s' → (∀ c o, H1 c = some o → H2 c = some o) → ps.length = min xs.length ys.length → PairsOf H1 H2 xs ys ps → Vals ps us → Q us s') :
    wpAny (model X.prog X.w) A (collect (.ref z)) Q E s := by
  have nS : ∀ {c : Addr} {o : Obj}, s.heap.get? c = some o → s.heap.objs.size ≠ c := fun e => Nat.ne_of_gt (Heap.lt_size e)
  obtain ⟨u, v, hTO⟩ := hTO
  obtain ⟨its1, _, p1, _⟩ := inv_seqK I qa
  obtain ⟨its2, _, p2, _⟩ := inv_seqK I qb
  have la : s.heap.objs.size ≠ a := Nat.ne_of_gt (hasK_lt p1)
  have lb : s.heap.objs.size ≠ b := Nat.ne_of_gt (hasK_lt p2)
  have n1 : s.heap.objs.size ≠ i1 := by obtain ⟨o, e⟩ := itK_is h1; exact nS e
  have n2 : s.heap.objs.size ≠ i2 := by obtain ⟨o, e⟩ := itK_is h2; exact nS e
  have hfS : H1 s.heap.objs.size = none := I.hok.fresh (Nat.le_refl _)
  unfold collect
  refine PySem.wpAny_bind (PySem.wpAny_runValue (PySem.codeAny_builtin PySem.F.entry_proto_collect ?_))
  rw [PySem.Around.under_plainId PySem.F.plain_proto_collect _]
  refine PySem.wpAny_bind (m := newList []) (wpAny_newObj_type ?_)
  refine PySem.wpAny_pure ⟨plainId_quiet PySem.F.plain_list_iadd _, PySem.codeAny_builtin PySem.F.entry_list_iadd ?_⟩
  rw [PySem.Around.under_plainId PySem.F.plain_list_iadd _]
  have I3 := I.lnew (t' := s.toks) (ys := []) (its := []) .nil (Nat.zero_le _)
  have up : ∀ {c : Addr} {o : Obj}, s.heap.get? c = some o → (s.heap.push { cls := .type "list", data := .seq ([] : List Value).toArray }).get? c = some o := fun e => Heap.get?_push_of_some _ e
  have hS : (s.heap.push { cls := .type "list", data := .seq ([] : List Value).toArray }).get? s.heap.objs.size = some { cls := .type "list", data := .seq ([] : List Value).toArray } := Heap.get?_push_size _ rfl
  have hz4 := up hz
  have hT4 : (⟨s.heap.push { cls := .type "list", data := .seq ([] : List Value).toArray }, s.gens, s.drawn, s.toks, s.os⟩ : Shared).TypeIs (.ref z) "zip" := ⟨_, hz4, rfl⟩
  show wpAny _ _ (Builtin.List.listExtendWith (.ref s.heap.objs.size) (.ref z) (.ref s.heap.objs.size)) _ _ _
  unfold Builtin.List.listExtendWith
  refine wpAny_bind (wpAny_typeOf hT4 ?_)
  have nz : Builtin.List.listSameRef (.ref s.heap.objs.size) (.ref z) = false := by simp [Builtin.List.listSameRef, nS hz]
  rw [if_neg (by rw [nz]; decide)]
  refine wpAny_bind (wpAny_pyIter_zip hz4 ?_)
  refine wpAny_bind (wpAny_holding ?_)
  unfold Builtin.List.listLengthHint
  refine wpAny_bind (wpAny_specialOf hT4 nolen_zip ?_)
  refine wpAny_bind (m := specialOf (Value.ref z) (Str.ofString "__length_hint__")) (wpAny_specialOf hT4 nohint_zip ?_)
  refine wpAny_pure ?_
  show wpAny _ _ (rule "list.extend.makes-room" >>= fun _ => Builtin.List.listTouch (.ref s.heap.objs.size) >>= fun _ => again (.builtin "list.extend.loop" ⟨[.ref s.heap.objs.size, .ref z, .ref s.heap.objs.size], []⟩)) _ _ _
  refine wpAny_bind (wpAny_rule (wpAny_bind ?_))
  show wpAny _ _ (updateSeq s.heap.objs.size (·.push .none) >>= fun _ => updateSeq s.heap.objs.size (·.pop)) _ _ _
  refine wpAny_bind (wpAny_updateSeq hS rfl ?_)
  have I5 := I3.lset (t' := s.toks) (f := (·.push .none)) (its' := [.none]) (ys := [.non]) upd_same hS rfl (.cons rfl .nil) (by decide)
  rw [upd_upd] at I5
  have hS5 := Heap.get?_update_self (Obj.mapSeq (·.push Value.none)) hS rfl
  refine wpAny_updateSeq hS5 rfl ?_
  have I6 := I5.lset (t' := s.toks) (f := (·.pop)) (its' := []) (ys := []) upd_same hS5 rfl .nil (Nat.zero_le _)
  rw [upd_upd] at I6
  have k6 : ∀ {c : Addr} {o : Obj}, s.heap.get? c = some o → (((s.heap.push { cls := .type "list", data := .seq ([] : List Value).toArray }).update s.heap.objs.size (Obj.mapSeq (·.push Value.none))).update s.heap.objs.size (Obj.mapSeq (·.pop))).get? c = some o :=
    fun e => (Heap.get?_update_other _ _ (nS e)).trans ((Heap.get?_update_other _ _ (nS e)).trans (up e))
  refine wpAny_pure ⟨plainId_quiet PySem.F.plain_extend_loop _, ?_⟩
  refine zip_loopK (pins := pins) (σ := σ) (H1 := H1) (xs := xs) (ys := ys) f1 f2 hh D hai hbi hm (nS hz) (nS hTI) (nS hTO) n1 n2 la lb qa qb (fun s' H2 ps I g hn hl hp => ?_) _ 0 _ H1 [] rfl (Nat.zero_le _) I6 (fun _ _ e => e) hfS rfl (fun j p e => by simp at e) (fun c hcm => ?_) ?_
  · obtain ⟨zo, its, nS, rS, _, eS⟩ := I.lstM (l := s.heap.objs.size) (xs := ps) upd_same
    refine PySem.wpAny_bind (m := PySem.load s.heap.objs.size) (wpAny_load eS ?_)
    refine PySem.wpAny_pure ?_
    have e : its.toArray.toList = its := by simp
    show Q its.toArray.toList _
    rw [e]
    refine hQ s' _ ps its I (fun c o e => ?_) hl (fun j p e => ?_) rS
    · rw [upd_ne (ne_of_none (g c o e) hn)]
      exact g c o e
    · obtain ⟨T, x, y, q1, q2, q3, q4, q5⟩ := hp j p e
      exact ⟨T, x, y, q1, q2, by rw [upd_ne (ne_of_none q3 hn)]; exact q3, q4, q5⟩
  · have cS : c ≠ s.heap.objs.size := by
      simp only [List.mem_cons, List.not_mem_nil, or_false] at hcm
      rcases hcm with rfl | rfl | rfl | rfl | rfl
      · exact (nS hz).symm
      · exact (nS hTI).symm
      · exact (nS hTO).symm
      · exact n1.symm
      · exact n2.symm
    obtain ⟨c1, c2, c3, c4, c5, c6⟩ := hf c hcm
    exact ⟨by rw [upd_ne cS]; exact c1, c2, c3, c4, c5, c6⟩
  · exact ⟨⟨_, k6 hTO⟩, k6 hTI, itK_at h1 fun o e => k6 e, itK_at h2 fun o e => k6 e, .inl ⟨k6 hz, u, v, k6 hTO⟩⟩
end
/-- tuple(zip(x, y)) -/
def tTupZip (K : PySem.W.Frag) (ta : TA) : TE := fun σ H Q => ta σ H fun vs H1 => ∃ (k1 k2 : Kd) (a b : Addr) (xs ys : List V), flatK k1 = true ∧ flatK k2 = true ∧ vs = [.ref a, .ref b] ∧ SqK k1 K H1 a xs ∧ SqK k2 K H1 b ys ∧ min xs.length ys.length ≤ sizeLine ∧
  ∀ S H2 ps, (∀ c o, H1 c = some o → H2 c = some o) → H2 S = none → ps.length = min xs.length ys.length → PairsOf H1 H2 xs ys ps → Q (.ref S) (upd H2 S (.tup ps))
section
variable {X : Cx}
theorem pe_tupZip {e e2 : Expr} {ta : TA} {p p2 pos pos2 : Pos} (hc : X.calm = true) (hg : Gl X "tuple") (hm : X.mg "tuple" = none) (hg2 : Gl X "zip") (hm2 : X.mg "zip" = none) (ha : PA X [e, e2] ta)
    (hs : starEach [e, e2] X.env = (false, eval e X.env) :: starEach [e2] X.env := by rfl) (hpl : (backTo pos2 (starEach [e2] X.env)).any (·.1) = false := by rfl)
    (hs2 : starEach [.Call (.Name "zip" p2) [e, e2] [] pos2] X.env = (false, eval (.Call (.Name "zip" p2) [e, e2] [] pos2) X.env) :: starEach [] X.env := by rfl) :
    PE X (.Call (.Name "tuple" p) [.Call (.Name "zip" p2) [e, e2] [] pos2] [] pos) (tTupZip X.K ta) := by
  refine ⟨fun pins s σ H Q I h => ?_⟩
  refine Call_ (ld_blt (u := .type "tuple") I hg hm (by decide +kernel) (PyProof.Rows.callWith_type1 (args_cons (Call_ (ld_blt I hg2 hm2 PyProof.Rows.boot_zip (PyProof.Rows.callWith_type1 (thn (ha.run pos2 pins s σ H _ I h) fun us s1 ⟨vs, H1, I1, r1, q1⟩ => ?_) hs hpl))) hs2) hs2 rfl))
  obtain ⟨k1, k2, a, b, xs, ys, f1, f2, ex, qa, qb, hmin, q⟩ := q1
  subst ex
  cases r1 with | cons r rr =>
  cases rr with | cons r' rr =>
  cases rr
  cases r
  cases r'
  obtain ⟨its, rv, p1, z1⟩ := inv_seqK I1 qa
  obtain ⟨its2, rv2, p2', z2⟩ := inv_seqK I1 qb
  have la := hasK_lt p1
  have lb := hasK_lt p2'
  refine call_zipK (n1 := xs.length) (n2 := ys.length) f1 f2 p1 p2' fun h' hz hTI hTO h1 h2 hk => args_nil ?_
  have I2 : Inv X pins σ H1 { s1 with heap := h' } := I1.kept (t' := s1.toks) hk
  have fresh : ∀ c, c ∈ [s1.heap.objs.size + 4, s1.heap.objs.size + 2, s1.heap.objs.size + 3, s1.heap.objs.size, s1.heap.objs.size + 1] → FpOk X pins H1 c := fun c hcm => by
    have hle : s1.heap.objs.size ≤ c := by
      simp only [List.mem_cons, List.not_mem_nil, or_false] at hcm
      rcases hcm with z | z | z | z | z <;> rw [z] <;> first | exact Nat.le_add_right _ _ | exact Nat.le_refl _
    exact I1.fpOk hle (I1.hok.fresh hle)
  refine callType_codes (Q₁ := fun obj s₁ => s₁.TypeIs obj "tuple" ∧ ∃ v H2, Inv X pins σ H2 s₁ ∧ RelV v obj ∧ Q v H2) PySem.F.called_tuple (PySem.F.typeCall_tuple_1 _) PySem.F.entry_object_init
    ?_ fun obj s₁ h₁ => ⟨h₁.1, PySem.F.args_object_init_2 obj _, object_init_meets PySem.F.called_tuple.init.lookup PySem.F.called_tuple.made (by decide) X.prog X.w _ _ s₁ ⟨h₁.1, rfl, h₁.2⟩⟩
  refine codeAny_of_tree ?_
  refine PySem.wpAny_bind (m := checkBuiltinCall "tuple.__new__" ⟨[.type "tuple", .ref (s1.heap.objs.size + 4)], []⟩) (wpAny_of_eq (PySem.F.newCall_tuple_1 _) (wpAny_pure ⟨plainId_quiet PySem.F.plain_tuple_new _, PySem.codeAny_builtin PySem.F.entry_tuple_new ?_⟩))
  rw [PySem.Around.under_plainId PySem.F.plain_tuple_new _]
  have hsub := sub_tuple_self
  have hinit := init_tuple_lookup
  have hmh := madeHere_tuple
  have hTy : ({ s1 with heap := h' } : Shared).TypeIs (.ref (s1.heap.objs.size + 4)) "zip" := ⟨_, hz, rfl⟩
  have hh1 : X.A.in1.in1.handled = none := I1.ok.hd hc
  wp_walk using wpAny_typeOf hTy, collectZ (pins := pins) (σ := σ) (H1 := H1) (xs := xs) (ys := ys) f1 f2 hh1 (zipSepK s1.heap.objs.size a b la lb) (Nat.ne_of_lt la) (Nat.ne_of_lt (Nat.lt_succ_of_lt lb)) hmin qa qb I2 hz hTI ⟨_, _, hTO⟩ h1 h2 fresh
  intro s' H2 ps us I3 g hl hp hv
  refine PySem.wpAny_bind (m := Builtin.Tuple.tupleExact us.toArray) ?_
  unfold Builtin.Tuple.tupleExact
  have hul : us.toArray.size ≤ sizeLine := by rw [List.size_toArray, ← hv.length, hl]; exact hmin
  refine wpAny_newObj_type ?_ hul
  refine PySem.wpAny_pure ?_
  have hnew := I3.hok.fresh (Nat.le_refl s'.heap.objs.size)
  refine ⟨⟨_, Heap.get?_push_size _ rfl, rfl⟩, .ref s'.heap.objs.size, _, I3.laid (t' := s'.toks) (a := s'.heap.objs.size) (o := .tup ps) (fun c o e => Heap.get?_push_of_some _ e) (Nat.le_refl _) ⟨by rw [hl]; exact hmin, us, hv, ⟨_, Heap.get?_push_size _ rfl, rfl, _, rfl⟩⟩, rfl, q _ H2 ps g hnew hl hp⟩
end
end Sk

/-! Sk: data, stores, what stands for what -/
namespace Sk
open PySem PySem.Spec PyProof.Rows L2

abbrev Ad := Addr → Prop
abbrev Slots := L2.St
/-- a tuple that the module's top wrote -/
def KTup (K : PySem.W.Frag) (a : Addr) (xs : List V) : Prop :=
  ∃ (o : Obj) (its : Array Value) (n : Nat), K.lookup a = some o ∧ o.cls = .type "tuple" ∧ o.data = .seq its n ∧
    its.size ≤ sizeLine ∧ Vals xs its.toList
mutual
/-- a value stands for data; no list of it stands at an owned place -/
inductive Rep (K : PySem.W.Frag) (H : Hp) (L : Ad) : V → PyData → Prop
  | non : Rep K H L .non .none
  | bl (b : Bool) : Rep K H L (.bl b) (.bool b)
  | int (i : Int) : Rep K H L (.int i) (.int i)
  | str (x : Str) : Rep K H L (.str x) (.str x)
  | lst {a : Addr} {xs : List V} {ds : List PyData} : H a = some (.lst xs) → ¬ L a → xs.length ≤ sizeLine →
      RepA K H L xs ds → Rep K H L (.ref a) (.list ds)
  | tup {a : Addr} {xs : List V} {ds : List PyData} : ((H a = some (.tup xs) ∧ ¬ L a) ∨ KTup K a xs) → xs.length ≤ sizeLine →
      RepA K H L xs ds → Rep K H L (.ref a) (.tuple ds)
inductive RepA (K : PySem.W.Frag) (H : Hp) (L : Ad) : List V → List PyData → Prop
  | nil : RepA K H L [] []
  | cons {v : V} {vs : List V} {d : PyData} {ds : List PyData} : Rep K H L v d → RepA K H L vs ds → RepA K H L (v :: vs) (d :: ds)
end

inductive W where
  | val (d : PyData)
  | loc (n : Nat)
  | scr (ns : List Int)
  /-- a tuple whose first item is the list at a place, the others data -/
  | pk (n : Nat) (ds : List PyData)
  /-- the dict at a place -/
  | dic (n : Nat)
abbrev Cell := Bool × List PyData
abbrev Mem := List Cell
abbrev Rho := List (Option W)

/-- lists stay lists, dicts of this text stay dicts -/
def kd : HO → Nat
  | .lst _ => 0
  | .ext _ => 1
  | _ => 2
theorem kd_lst {o : HO} (h : kd o = 0) : ∃ xs, o = .lst xs := by
  cases o <;> first | exact ⟨_, rfl⟩ | (simp [kd] at h; done)
theorem kd_ext {o : HO} (h : kd o = 1) : ∃ φ, o = .ext φ := by
  cases o <;> first | exact ⟨_, rfl⟩ | (simp [kd] at h; done)
structure Ext (H : Hp) (L : Ad) (m : List Addr) (H' : Hp) (L' : Ad) (m' : List Addr) : Prop where
  keep : ∀ a o, H a = some o → ¬ L a → H' a = some o ∧ ¬ L' a
  res : ∀ a, L a → a ∉ m → H a ≠ none → L' a ∧ H' a = H a
  pre : ∃ more, m' = m ++ more ∧ ∀ a ∈ more, H a = none
  kind : ∀ a o, H a = some o → ∃ o', H' a = some o' ∧ kd o' = kd o
theorem Ext.stay {H H' : Hp} {L L' : Ad} {m m' : List Addr} (x : Ext H L m H' L' m') : ∀ a, H a ≠ none → H' a ≠ none := fun a h => by
  cases e : H a with
  | none => exact absurd e h
  | some o => obtain ⟨o', h1, _⟩ := x.kind a o e; rw [h1]; simp

section
variable {K : PySem.W.Frag} {H H1 H2 : Hp} {L L1 Lb : Ad} {m m1 m2 : List Addr}
theorem Ext.refl : Ext H L m H L m := ⟨fun _ _ h n => ⟨h, n⟩, fun _ h _ _ => ⟨h, rfl⟩, ⟨[], by simp, by simp⟩, fun _ o h => ⟨o, h, rfl⟩⟩
theorem Ext.trans (a : Ext H L m H1 L1 m1) (b : Ext H1 L1 m1 H2 Lb m2) : Ext H L m H2 Lb m2 := by
  obtain ⟨e1, p1, f1⟩ := a.pre
  obtain ⟨e2, p2, f2⟩ := b.pre
  refine ⟨fun x o h n => ?_, fun x h n s => ?_, ⟨e1 ++ e2, by rw [p2, p1, List.append_assoc], fun x hx => ?_⟩, fun x o h => by
    obtain ⟨o1, h1, k1⟩ := a.kind x o h
    obtain ⟨o2, h2, k2⟩ := b.kind x o1 h1
    exact ⟨o2, h2, k2.trans k1⟩⟩
  · obtain ⟨h1, n1⟩ := a.keep x o h n
    exact b.keep x o h1 n1
  · obtain ⟨h1, e⟩ := a.res x h n s
    have hm : x ∉ m1 := by
      rw [p1]
      intro q
      rcases List.mem_append.mp q with q | q
      · exact n q
      · exact s (f1 x q)
    obtain ⟨h2, e'⟩ := b.res x h1 hm (by rw [e]; exact s)
    exact ⟨h2, e'.trans e⟩
  · rcases List.mem_append.mp hx with q | q
    · exact f1 x q
    · have z := f2 x q
      cases hh : H x with
      | none => rfl
      | some o => exact absurd z (a.stay x (by rw [hh]; simp))
theorem Ext.get (a : Ext H L m H1 L1 m1) {n : Nat} {x : Addr} (h : m[n]? = some x) : m1[n]? = some x := by
  obtain ⟨e1, p1, f1⟩ := a.pre
  rw [p1, List.getElem?_append_left (List.getElem?_eq_some_iff.mp h).1]
  exact h
/-- nothing is written -/
theorem Ext.same (h : ∀ a o, H a = some o → H1 a = some o) (t : ∀ a, L a → H a ≠ none) : Ext H L m H1 L m :=
  ⟨fun a o e n => ⟨h a o e, n⟩, fun a l _ s => ⟨l, by
    cases e : H a with
    | none => exact absurd e s
    | some o => exact h a o e⟩, ⟨[], by simp, by simp⟩, fun a o e => ⟨o, h a o e, rfl⟩⟩

mutual
theorem Rep.mono (k : ∀ a o, H a = some o → ¬ L a → H1 a = some o ∧ ¬ L1 a) : ∀ (d : PyData) (v : V), Rep K H L v d → Rep K H1 L1 v d
  | .none, _, h => by cases h; exact .non
  | .bool b, _, h => by cases h; exact .bl b
  | .int i, _, h => by cases h; exact .int i
  | .str x, _, h => by cases h; exact .str x
  | .list ds, _, h => by
    cases h with
    | lst h1 h2 h3 h4 => exact .lst (k _ _ h1 h2).1 (k _ _ h1 h2).2 h3 (RepA.mono k ds _ h4)
  | .tuple ds, _, h => by
    cases h with
    | tup h1 h3 h4 =>
      refine .tup ?_ h3 (RepA.mono k ds _ h4)
      rcases h1 with ⟨q, n⟩ | q
      · exact .inl (k _ _ q n)
      · exact .inr q
  | .dict _, _, h => by cases h
theorem RepA.mono (k : ∀ a o, H a = some o → ¬ L a → H1 a = some o ∧ ¬ L1 a) : ∀ (ds : List PyData) (vs : List V), RepA K H L vs ds → RepA K H1 L1 vs ds
  | [], _, h => by cases h; exact .nil
  | d :: ds, _, h => by
    cases h with
    | cons h1 h2 => exact .cons (Rep.mono k d _ h1) (RepA.mono k ds _ h2)
end
theorem RepA.length : ∀ {ds : List PyData} {vs : List V}, RepA K H L vs ds → vs.length = ds.length
  | [], _, h => by cases h; rfl
  | d :: ds, _, h => by
    cases h with
    | cons h1 h2 => rw [List.length_cons, List.length_cons, RepA.length h2]
theorem RepA.get : ∀ {ds : List PyData} {vs : List V} {i : Nat} {d : PyData}, RepA K H L vs ds → ds[i]? = some d → ∃ v, vs[i]? = some v ∧ Rep K H L v d
  | [], _, _, _, h, e => by simp at e
  | d :: ds, _, 0, x, h, e => by
    cases h with
    | cons h1 h2 => simp at e; subst e; exact ⟨_, by simp, h1⟩
  | d :: ds, _, i + 1, x, h, e => by
    cases h with
    | cons h1 h2 =>
      obtain ⟨v, q1, q2⟩ := RepA.get (i := i) (d := x) h2 (by simpa using e)
      exact ⟨v, by simpa using q1, q2⟩
theorem RepA.append : ∀ {ds es : List PyData} {vs us : List V}, RepA K H L vs ds → RepA K H L us es → RepA K H L (vs ++ us) (ds ++ es)
  | [], _, _, _, h, g => by cases h; simpa using g
  | d :: ds, _, _, _, h, g => by
    cases h with
    | cons h1 h2 => exact .cons h1 (RepA.append h2 g)
theorem RepA.drop : ∀ {ds : List PyData} {vs : List V} (n : Nat), RepA K H L vs ds → RepA K H L (vs.drop n) (ds.drop n)
  | _, _, 0, h => by simpa using h
  | [], _, n + 1, h => by cases h; simpa using RepA.nil
  | d :: ds, _, n + 1, h => by
    cases h with
    | cons h1 h2 => simpa using RepA.drop n h2
theorem RepA.take : ∀ {ds : List PyData} {vs : List V} (n : Nat), RepA K H L vs ds → RepA K H L (vs.take n) (ds.take n)
  | _, _, 0, h => by simpa using RepA.nil
  | [], _, n + 1, h => by cases h; simpa using RepA.nil
  | d :: ds, _, n + 1, h => by
    cases h with
    | cons h1 h2 => simpa using RepA.cons h1 (RepA.take n h2)
theorem RepA.set : ∀ {ds : List PyData} {vs : List V} {v : V} {d : PyData} (n : Nat), RepA K H L vs ds → Rep K H L v d → RepA K H L (vs.set n v) (ds.set n d)
  | [], _, _, _, n, h, g => by cases h; simpa using RepA.nil
  | d :: ds, _, _, _, 0, h, g => by
    cases h with
    | cons h1 h2 => simpa using RepA.cons g h2
  | d :: ds, _, _, _, n + 1, h, g => by
    cases h with
    | cons h1 h2 => simpa using RepA.cons h1 (RepA.set n h2 g)
theorem RepA.reverse : ∀ {ds : List PyData} {vs : List V}, RepA K H L vs ds → RepA K H L vs.reverse ds.reverse
  | [], _, h => by cases h; simpa using RepA.nil
  | d :: ds, _, h => by
    cases h with
    | cons h1 h2 => simpa using RepA.append (RepA.reverse h2) (.cons h1 .nil)
theorem RepA.one {v : V} {d : PyData} (h : Rep K H L v d) : RepA K H L [v] [d] := .cons h .nil

/-- data at a list's own place, owned or not -/
inductive RepT (K : PySem.W.Frag) (H : Hp) (L : Ad) : V → PyData → Prop
  | val {v : V} {d : PyData} : Rep K H L v d → RepT K H L v d
  | lst {a : Addr} {xs : List V} {ds : List PyData} : H a = some (.lst xs) → xs.length ≤ sizeLine → RepA K H L xs ds → RepT K H L (.ref a) (.list ds)
mutual
theorem Rep.dp : ∀ {d : PyData} {v : V}, Rep K H L v d → Dp K H v d
  | .none, _, h => by cases h; exact .non
  | .bool b, _, h => by cases h; exact .bl b
  | .int i, _, h => by cases h; exact .int i
  | .str x, _, h => by cases h; exact .str x
  | .list ds, _, h => by
    cases h with
    | lst h1 h2 h3 h4 => exact .lst (.inl (.inl h1)) (RepA.dp h4)
  | .tuple ds, _, h => by
    cases h with
    | tup h1 h3 h4 =>
      refine .tup ?_ (RepA.dp h4)
      rcases h1 with ⟨q, n⟩ | q
      · exact .inl (.inl q)
      · exact .inr q
  | .dict _, _, h => by cases h
theorem RepA.dp : ∀ {ds : List PyData} {vs : List V}, RepA K H L vs ds → DpAll K H vs ds
  | [], _, h => by cases h; exact .nil
  | d :: ds, _, h => by
    cases h with
    | cons h1 h2 => exact .cons (Rep.dp h1) (RepA.dp h2)
end
theorem RepT.dp {d : PyData} {v : V} (h : RepT K H L v d) : Dp K H v d := by
  cases h with
  | val h => exact h.dp
  | lst h1 h2 h3 => exact .lst (.inl (.inl h1)) h3.dp
theorem RepT.toList {ds : List PyData} {v : V} (h : RepT K H L v (.list ds)) : ∃ a xs, v = .ref a ∧ H a = some (.lst xs) ∧ xs.length ≤ sizeLine ∧ RepA K H L xs ds := by
  cases h with
  | val h =>
    cases h with
    | lst h1 h2 h3 h4 => exact ⟨_, _, rfl, h1, h3, h4⟩
  | lst h1 h2 h3 => exact ⟨_, _, rfl, h1, h2, h3⟩
theorem RepT.toTup {ds : List PyData} {v : V} (h : RepT K H L v (.tuple ds)) : ∃ a xs, v = .ref a ∧ SqT K H a xs ∧ xs.length ≤ sizeLine ∧ RepA K H L xs ds := by
  cases h with
  | val h =>
    cases h with
    | tup h1 h3 h4 =>
      refine ⟨_, _, rfl, ?_, h3, h4⟩
      rcases h1 with ⟨q, n⟩ | q
      · exact .inl (.inl q)
      · exact .inr q

/-- a list that nobody writes: the script -/
def Fzn (K : PySem.W.Frag) (H : Hp) (L : Ad) (a : Addr) (xs : List V) : Prop :=
  (∃ o, H a = some (.frz o (.lst xs)) ∧ ¬ L a) ∨
    ∃ (o : Obj) (its : Array Value) (n : Nat), K.lookup a = some o ∧ o.cls = .type "list" ∧ o.dict = none ∧ o.data = .seq its n ∧ its.size ≤ sizeLine ∧ Vals xs its.toList
theorem Fzn.sq {a : Addr} {xs : List V} (h : Fzn K H L a xs) : SqL K H a xs := by
  rcases h with ⟨o, h, _⟩ | h
  · exact .inl (.inr ⟨o, h⟩)
  · exact .inr h
theorem Fzn.mono (k : ∀ a o, H a = some o → ¬ L a → H1 a = some o ∧ ¬ L1 a) {a : Addr} {xs : List V} (h : Fzn K H L a xs) : Fzn K H1 L1 a xs := by
  rcases h with ⟨o, h, n⟩ | h
  · exact .inl ⟨o, k _ _ h n⟩
  · exact .inr h

inductive RepW (K : PySem.W.Frag) (H : Hp) (L : Ad) (m : List Addr) : V → W → Prop
  | val {v : V} {d : PyData} : Rep K H L v d → RepW K H L m v (.val d)
  | loc {a : Addr} {n : Nat} : m[n]? = some a → (∃ vs, H a = some (.lst vs)) → RepW K H L m (.ref a) (.loc n)
  | scr {a : Addr} {ns : List Int} : Fzn K H L a (ns.map V.int) → ns.length ≤ sizeLine → RepW K H L m (.ref a) (.scr ns)
  | pk {a b : Addr} {n : Nat} {us : List V} {ds : List PyData} : H a = some (.tup (.ref b :: us)) → ¬ L a → m[n]? = some b → (∃ vs, H b = some (.lst vs)) → us.length < sizeLine → RepA K H L us ds → RepW K H L m (.ref a) (.pk n ds)
  | dic {a : Addr} {n : Nat} : m[n]? = some a → (∃ φ, H a = some (.ext φ)) → RepW K H L m (.ref a) (.dic n)
theorem Ext.lst (e : Ext H L m H1 L1 m1) {a : Addr} (h : ∃ vs, H a = some (.lst vs)) : ∃ vs, H1 a = some (.lst vs) := by
  obtain ⟨vs, h⟩ := h
  obtain ⟨o, h1, k⟩ := e.kind a _ h
  obtain ⟨xs, rfl⟩ := kd_lst k
  exact ⟨xs, h1⟩
theorem Ext.dct (e : Ext H L m H1 L1 m1) {a : Addr} (h : ∃ φ, H a = some (.ext φ)) : ∃ φ, H1 a = some (.ext φ) := by
  obtain ⟨vs, h⟩ := h
  obtain ⟨o, h1, k⟩ := e.kind a _ h
  obtain ⟨xs, rfl⟩ := kd_ext k
  exact ⟨xs, h1⟩
theorem RepW.mono (e : Ext H L m H1 L1 m1) {v : V} {w : W} (h : RepW K H L m v w) : RepW K H1 L1 m1 v w := by
  cases h with
  | val h => exact .val (Rep.mono e.keep _ _ h)
  | loc h g => exact .loc (e.get h) (e.lst g)
  | scr h l => exact .scr (h.mono e.keep) l
  | pk h n g hb l r => exact .pk (e.keep _ _ h n).1 (e.keep _ _ h n).2 (e.get g) (e.lst hb) l (RepA.mono e.keep _ _ r)
  | dic h g => exact .dic (e.get h) (e.dct g)
abbrev RepWs (K : PySem.W.Frag) (H : Hp) (L : Ad) (m : List Addr) : List V → List W → Prop := Paired (RepW K H L m)
theorem RepWs.mono (e : Ext H L m H1 L1 m1) : ∀ {vs : List V} {ws : List W}, RepWs K H L m vs ws → RepWs K H1 L1 m1 vs ws
  | _, _, .nil => .nil
  | _, _, .cons r t => .cons (r.mono e) (RepWs.mono e t)

def CellOk (K : PySem.W.Frag) (H : Hp) (L : Ad) (a : Addr) (c : Cell) : Prop :=
  ∃ vs, H a = some (.lst vs) ∧ vs.length ≤ sizeLine ∧ RepA K H L vs c.2 ∧ (c.1 = true → L a) ∧ (c.1 = false → ¬ L a)
/-- the hash of a tuple of ints -/
def hashI (ks : List Int) : Int := reduceHash (Builtin.Tuple.tupleHashOf (ks.map hashInt))
def entI (x : List Int × Addr × Value) : DictEntry := ⟨hashI x.1, .ref x.2.1, x.2.2⟩
/-- the dict's one object -/
def DicH (a : Addr) (o : Obj) (xs : List (List Int × Addr × Value)) (h : Heap) : Prop :=
  h.get? a = some o ∧ o.ExactDict ∧ (xs.map (·.1)).Nodup ∧ ∃ es ep, o.data = .dict es ep ∧ es.toList = xs.map entI
def DEnt (K : PySem.W.Frag) (H : Hp) (L : Ad) (x : List Int × Addr × Value) (d : PyData) : Prop :=
  ∃ (v : V) (dv : PyData), d = .tuple [.tuple (x.1.map .int), dv] ∧ Rep K H L (.ref x.2.1) (.tuple (x.1.map .int)) ∧ RelV v x.2.2 ∧ Rep K H L v dv
/-- a dict whose keys are tuples of ints -/
def CellD (K : PySem.W.Frag) (H : Hp) (L : Ad) (a : Addr) (c : Cell) : Prop :=
  ∃ o xs, H a = some (.ext (DicH a o xs)) ∧ xs.length ≤ sizeLine ∧ (a == sysModules) = false ∧ Paired (DEnt K H L) xs c.2 ∧ (c.1 = true → L a) ∧ (c.1 = false → ¬ L a)
theorem CellD.has {K : PySem.W.Frag} {H : Hp} {L : Ad} {a : Addr} {c : Cell} (h : CellD K H L a c) : ∃ φ, H a = some (.ext φ) := by
  obtain ⟨o, xs, h, _⟩ := h
  exact ⟨_, h⟩
theorem CellOk.has {K : PySem.W.Frag} {H : Hp} {L : Ad} {a : Addr} {c : Cell} (h : CellOk K H L a c) : ∃ vs, H a = some (.lst vs) := by
  obtain ⟨xs, h, _⟩ := h
  exact ⟨_, h⟩
/-- what stands at a place -/
def CellAt (K : PySem.W.Frag) (H : Hp) (L : Ad) (a : Addr) (c : Cell) : Prop := CellOk K H L a c ∨ CellD K H L a c
theorem CellAt.lst {K : PySem.W.Frag} {H : Hp} {L : Ad} {a : Addr} {c : Cell} (h : CellAt K H L a c) (g : ∃ vs, H a = some (.lst vs)) : CellOk K H L a c := by
  rcases h with h | h
  · exact h
  · obtain ⟨φ, e⟩ := h.has
    obtain ⟨vs, e'⟩ := g
    rw [e] at e'; cases e'
theorem CellAt.dct {K : PySem.W.Frag} {H : Hp} {L : Ad} {a : Addr} {c : Cell} (h : CellAt K H L a c) (g : ∃ φ, H a = some (.ext φ)) : CellD K H L a c := by
  rcases h with h | h
  · obtain ⟨vs, e⟩ := h.has
    obtain ⟨φ, e'⟩ := g
    rw [e] at e'; cases e'
  · exact h
theorem CellAt.has {K : PySem.W.Frag} {H : Hp} {L : Ad} {a : Addr} {c : Cell} (h : CellAt K H L a c) : ∃ o, H a = some o := by
  rcases h with h | h
  · obtain ⟨vs, e⟩ := h.has
    exact ⟨_, e⟩
  · obtain ⟨vs, e⟩ := h.has
    exact ⟨_, e⟩
structure StOk (K : PySem.W.Frag) (H : Hp) (L : Ad) (m : List Addr) (st : Mem) : Prop where
  len : m.length = st.length
  nd : m.Nodup
  trk : ∀ a, L a → H a ≠ none
  cell : ∀ (n : Nat) (c : Cell) (a : Addr), st[n]? = some c → m[n]? = some a → CellAt K H L a c
theorem StOk.cellL {K : PySem.W.Frag} {H : Hp} {L : Ad} {m : List Addr} {st : Mem} (k : StOk K H L m st) (n : Nat) (c : Cell) (a : Addr) (h : st[n]? = some c) (g : m[n]? = some a) (l : ∃ vs, H a = some (.lst vs)) : CellOk K H L a c := (k.cell n c a h g).lst l
structure EnvOk (K : PySem.W.Frag) (H : Hp) (L : Ad) (m : List Addr) (r : Rho) (σ : Slots) : Prop where
  len : r.length = σ.length
  get : ∀ (i : Nat) (w : W), r[i]? = some (some w) → ∃ v, σ[i]? = some (some v) ∧ RepW K H L m v w
theorem EnvOk.mono (e : Ext H L m H1 L1 m1) {r : Rho} {σ : Slots} (h : EnvOk K H L m r σ) : EnvOk K H1 L1 m1 r σ :=
  ⟨h.len, fun i w q => let ⟨v, h1, h2⟩ := h.get i w q; ⟨v, h1, h2.mono e⟩⟩
theorem EnvOk.set {r : Rho} {σ : Slots} {v : V} {w : W} (h : EnvOk K H L m r σ) (i : Nat) (x : RepW K H L m v w) : EnvOk K H L m (r.set i (some w)) (σ.set i (some v)) := by
  refine ⟨by rw [List.length_set, List.length_set]; exact h.len, fun j u q => ?_⟩
  by_cases e : i = j
  · subst e
    have hl : i < r.length := by
      have := (List.getElem?_eq_some_iff.mp q).1
      simpa using this
    rw [List.getElem?_set_self hl] at q
    cases q
    exact ⟨v, List.getElem?_set_self (by rw [← h.len]; exact hl), x⟩
  · rw [List.getElem?_set_ne e] at q
    obtain ⟨v', h1, h2⟩ := h.get j u q
    exact ⟨v', by rw [List.getElem?_set_ne e]; exact h1, h2⟩

/-- what a value is, read now -/
def look (st : Mem) : W → Option PyData
  | .val d => some d
  | .loc n => st[n]?.map fun c => .list c.2
  | .scr ns => some (.list (ns.map .int))
  | .pk _ _ => none
  | .dic _ => none
def lookD (st : Mem) : W → Option PyData
  | .val d => some d
  | .loc n => st[n]?.map fun c => .list c.2
  | .scr _ => none
  | .pk _ _ => none
  | .dic _ => none
theorem StOk.at {st : Mem} (s : StOk K H L m st) {n : Nat} {c : Cell} (h : st[n]? = some c) : ∃ a, m[n]? = some a ∧ CellAt K H L a c := by
  have hl : n < m.length := by rw [s.len]; exact (List.getElem?_eq_some_iff.mp h).1
  exact ⟨m[n], List.getElem?_eq_getElem hl, s.cell n c _ h (List.getElem?_eq_getElem hl)⟩
theorem RepW.lk {st : Mem} {v : V} {w : W} {d : PyData} (h : RepW K H L m v w) (s : StOk K H L m st) (e : lookD st w = some d) : RepT K H L v d := by
  cases h with
  | val h => cases e; exact .val h
  | scr h => cases e
  | pk _ _ _ _ _ _ => cases e
  | dic _ _ => cases e
  | @loc a n h hl =>
    simp only [lookD] at e
    cases q : st[n]? with
    | none => rw [q] at e; cases e
    | some c =>
      rw [q] at e
      cases e
      obtain ⟨a', ha', hc⟩ := s.at q
      rw [h] at ha'
      cases ha'
      obtain ⟨vs, h1, h2, h3, h4, h5⟩ := hc.lst hl
      exact .lst h1 h2 h3
theorem StOk.new {st : Mem} (s : StOk K H L m st) {p : Addr} (h : H p = none) : ¬ L p := fun l => s.trk p l h
theorem keep_upd {p : Addr} {o : HO} (s : ∀ a, L a → H a ≠ none) (h : H p = none) : ∀ a u, H a = some u → ¬ L a → upd H p o a = some u ∧ ¬ L a := fun a u e n =>
  ⟨by rw [upd_ne (ne_of_none e h)]; exact e, n⟩
theorem ext_upd {p : Addr} {o : HO} (s : ∀ a, L a → H a ≠ none) (h : H p = none) : Ext H L m (upd H p o) L m :=
  Ext.same (fun a u e => by rw [upd_ne (ne_of_none e h)]; exact e) s
theorem CellOk.mono (k : ∀ a o, H a = some o → ¬ L a → H1 a = some o ∧ ¬ L1 a) {a : Addr} {c : Cell} (h : CellOk K H L a c) (e : H1 a = H a) (l : L a → L1 a) (n : ¬ L a → ¬ L1 a) : CellOk K H1 L1 a c := by
  obtain ⟨vs, h1, h2, h3, h4, h5⟩ := h
  exact ⟨vs, e.trans h1, h2, RepA.mono k _ _ h3, fun q => l (h4 q), fun q => n (h5 q)⟩
theorem CellD.mono (k : ∀ a o, H a = some o → ¬ L a → H1 a = some o ∧ ¬ L1 a) {a : Addr} {c : Cell} (h : CellD K H L a c) (e : H1 a = H a) (l : L a → L1 a) (n : ¬ L a → ¬ L1 a) : CellD K H1 L1 a c := by
  obtain ⟨o, xs, h1, h2, h3, h4, h5, h6⟩ := h
  refine ⟨o, xs, e.trans h1, h2, h3, Paired.mapP h4 fun x d ⟨v, dv, q1, q2, q3, q4⟩ => ⟨v, dv, q1, Rep.mono k _ _ q2, q3, Rep.mono k _ _ q4⟩, fun q => l (h5 q), fun q => n (h6 q)⟩
theorem CellAt.mono (k : ∀ a o, H a = some o → ¬ L a → H1 a = some o ∧ ¬ L1 a) {a : Addr} {c : Cell} (h : CellAt K H L a c) (e : H1 a = H a) (l : L a → L1 a) (n : ¬ L a → ¬ L1 a) : CellAt K H1 L1 a c := by
  rcases h with h | h
  · exact .inl (h.mono k e l n)
  · exact .inr (h.mono k e l n)
theorem StOk.upd {st : Mem} (s : StOk K H L m st) {p : Addr} {o : HO} (h : H p = none) : StOk K (upd H p o) L m st := by
  refine ⟨s.len, s.nd, fun a l => ?_, fun n c a h1 h2 => ?_⟩
  · by_cases e : a = p
    · subst e; rw [upd_same]; simp
    · rw [upd_ne e]; exact s.trk a l
  · have q := s.cell n c a h1 h2
    obtain ⟨vs, hv⟩ := q.has
    exact q.mono (keep_upd s.trk h) (by rw [upd_ne (ne_of_none hv h)]) id id
end
end Sk

/-! Sk2: a small language, and what its programs come to -/
namespace Sk
open PySem PySem.Spec PyProof.Rows L2

inductive BOp | add | sub | mul | div | mod | pow
inductive COp | eq | ne | lt | le | gt | ge | isIn | notIn
inductive Blt | len | abs | int1 | str1 | tup1 | min2 | max2 | any1 | all1 | rev1 | step1 | max1 | min1 | sum1 | maxd | tupZ | isi (ts : List String)
inductive Mt | app | ext | ins | pop
mutual
inductive Tg | name (i : Nat) | tup (ts : Tgs)
inductive Tgs | nil | cons (t : Tg) (ts : Tgs)
end
mutual
inductive Ex
  | var (i : Nat)
  | con (d : PyData)
  | bin (o : BOp) (a b : Ex)
  | neg (a : Ex)
  | cmp (o : COp) (a b : Ex)
  | isN (a : Ex)
  | notN (a : Ex)
  | isC (b : Bool) (a : Ex)
  | chain (o p : COp) (a b c : Ex)
  | and2 (a b : Ex)
  | or2 (a b : Ex)
  | orV (a b : Ex)
  | not1 (a : Ex)
  | ife (c a b : Ex)
  | tup (es : Exs)
  | fr (f : Fx)
  | idx (a i : Ex)
  | slc (a : Ex) (lo hi : Exs)
  | call (f : Nat) (es : Exs)
  | blt (b : Blt) (es : Exs)
  | mt (o : Mt) (a : Ex) (es : Exs)
  | dlk (kvs : List (Str × PyData)) (a : Ex)
  | pk (i : Nat) (es : Exs)
inductive Fx
  | disp (es : Exs)
  | lc (elt : Ex) (tg : Tg) (it : Itx) (cond : Exs) (own : List Nat)
  | listOf (a : Ex)
  | zipL (es : Exs)
  | cat (a b : Ex)
inductive Itx
  | seq (a : Ex)
  | rng1 (a : Ex)
  | rng2 (a b : Ex)
  | enum (a : Ex)
  | zip (a b : Ex)
  | zipR (a b : Ex)
inductive Exs
  | nil
  | cons (e : Ex) (es : Exs)
end
mutual
inductive Sx
  | asg (i : Nat) (e : Ex)
  | new (i : Nat) (f : Fx)
  | newD (i : Nat)
  | asgT (tg : Tgs) (e : Ex)
  | par (is : List Nat) (es : Exs)
  | setI (a i e : Ex)
  | aug (i : Nat) (o : BOp) (e : Ex)
  | expr (e : Ex)
  | ite (c : Ex) (t f : Sxs)
  | whl (c : Ex) (b : Sxs)
  | for1 (tg : Tg) (it : Itx) (b : Sxs)
  | ret (e : Ex)
  | retF (f : Fx)
  | retN
  | brk
  | ctn
  | pass
inductive Sxs
  | nil
  | cons (s : Sx) (ss : Sxs)
end

/-! ### data -/
def flatD : PyData → Bool
  | .none | .bool _ | .int _ => true
  | .str x => PyData.strOk x
  | .list _ | .tuple _ | .dict _ => false
def okd : Nat → PyData → Bool
  | 0, d => flatD d
  | n + 1, .list ds => ds.all (okd n)
  | n + 1, .tuple ds => ds.all (okd n)
  | _ + 1, d => flatD d
/-- data that may be compared: sixty deep at most -/
def fit (d : PyData) : Bool := okd 60 d
def lineN : Nat := 1000000
def catD (xs ys : List PyData) : Option (List PyData) := if xs.length + ys.length ≤ lineN then some (xs ++ ys) else none
def bop : BOp → PyData → PyData → Option PyData
  | .add, .int i, .int j => some (.int (i + j))
  | .add, .str x, .str y => if x.length + y.length ≤ lineN then some (.str (x ++ y)) else none
  | .add, .list xs, .list ys => (catD xs ys).map .list
  | .add, .tuple xs, .tuple ys => (catD xs ys).map .tuple
  | .sub, .int i, .int j => some (.int (i - j))
  | .mul, .int i, .int j => if i.natAbs.log2 + j.natAbs.log2 < 100000000 then some (.int (i * j)) else none
  | .div, .int i, .int j => if 0 < j ∧ j.natAbs.log2 < 9000 then some (.int (i / j)) else none
  | .mod, .int i, .int j => if 0 < j then some (.int (i % j)) else none
  | .pow, .int i, .int j => if 0 ≤ j ∧ j ≤ 1000000 ∧ i.natAbs < 2 ^ 64 then some (.int (i ^ j.toNat)) else none
  | _, _, _ => none
def flatC : PyData → Bool
  | .none | .bool _ | .int _ | .str _ => true
  | _ => false
def eqD : PyData → PyData → Option Bool
  | .int i, .int j => some (decide (i = j))
  | .str i, .str j => some (decide (i = j))
  | x, y => if fit x && fit y then some (PyData.eqv x y) else none
def inD : PyData → PyData → Option Bool
  | x, .list ds => if fit x && fit (.list ds) then some (ds.any fun z => PyData.eqv z x) else none
  | x, .tuple ds => if flatC x && ds.all flatC then some (ds.any fun z => PyData.eqv z x) else none
  | _, _ => none
def cop : COp → PyData → PyData → Option Bool
  | .eq, x, y => eqD x y
  | .ne, x, y => (eqD x y).map (!·)
  | .isIn, x, y => inD x y
  | .notIn, x, y => (inD x y).map (!·)
  | .lt, .int i, .int j => some (decide (i < j))
  | .le, .int i, .int j => some (decide (i ≤ j))
  | .gt, .int i, .int j => some (decide (j < i))
  | .ge, .int i, .int j => some (decide (j ≤ i))
  | _, _, _ => none
def idxD : PyData → PyData → Option PyData
  | .list ds, .int i => atI ds i
  | .tuple ds, .int i => atI ds i
  | _, _ => none
def cutD (xs : List PyData) (lo hi : Option Int) : List PyData :=
  (xs.drop (HT.sIx xs.length 0 lo)).take (HT.sIx xs.length xs.length hi - HT.sIx xs.length 0 lo)
def slcD : PyData → Option Int → Option Int → Option PyData
  | .list ds, lo, hi => some (.list (cutD ds lo hi))
  | .tuple ds, lo, hi => some (.tuple (cutD ds lo hi))
  | _, _, _ => none
def part1 : List PyData → Option (Option Int)
  | [] => some none
  | [.int i] => some (some i)
  | _ => none
def isTy : String → PyData → Bool
  | "int", .int _ => true
  | "int", .bool _ => true
  | "bool", .bool _ => true
  | "list", .list _ => true
  | "tuple", .tuple _ => true
  | "str", .str _ => true
  | _, _ => false
def bools : List PyData → Option (List Bool)
  | [] => some []
  | .bool b :: r => (bools r).map (b :: ·)
  | _ => none
def intsD : List PyData → Option (List Int)
  | [] => some []
  | .int b :: r => (intsD r).map (b :: ·)
  | _ => none
/-- each n-th one -/
def stepL {α : Type} (n : Int) (ds : List α) : List α := (sliceRange 0 ds.length n).filterMap (ds[·]?)
def bestD (f : Int → Int → Int) : List Int → Option Int
  | [] => none
  | n :: ns => some (ns.foldl f n)
def shw (d : PyData) : Option PyData := if d.showable && fit d && decide (d.shown.length ≤ sizeLine) then some (.str d.shown) else none
def seqD : PyData → Option (List PyData)
  | .list ds => some ds
  | .tuple ds => some ds
  | _ => none
def zipT (x y : PyData) : Option PyData := (seqD x).bind fun xs => (seqD y).map fun ys => .tuple (List.zipWith (fun u v => .tuple [u, v]) xs ys)
def bltD : Blt → List PyData → Option PyData
  | .len, [.list ds] => some (.int ds.length)
  | .len, [.tuple ds] => some (.int ds.length)
  | .abs, [.int i] => some (.int i.natAbs)
  | .int1, [.int i] => some (.int i)
  | .int1, [.bool b] => some (.int (if b then 1 else 0))
  | .str1, [.int i] => if i.natAbs.log2 < 1920 then some (.str (toString i)) else none
  | .str1, [.str x] => some (.str x)
  | .str1, [.none] => some (.str "None")
  | .str1, [.bool b] => some (.str (if b then "True" else "False"))
  | .str1, [.list ds] => shw (.list ds)
  | .str1, [.tuple ds] => shw (.tuple ds)
  | .tup1, [.list ds] => some (.tuple ds)
  | .tup1, [.tuple ds] => some (.tuple ds)
  | .min2, [.int i, .int j] => some (.int (min i j))
  | .max2, [.int i, .int j] => some (.int (max i j))
  | .any1, [.list ds] => (bools ds).map fun bs => .bool (bs.any id)
  | .all1, [.list ds] => (bools ds).map fun bs => .bool (bs.all id)
  | .isi ts, [d] => some (.bool (ts.any fun t => isTy t d))
  | .rev1, [.list ds] => some (.list ds.reverse)
  | .step1, [.list ds, .int n] => if 0 < n then some (.list (stepL n ds)) else none
  | .max1, [.list ds] => (intsD ds).bind fun ns => (bestD max ns).map .int
  | .min1, [.list ds] => (intsD ds).bind fun ns => (bestD min ns).map .int
  | .sum1, [.list ds] => (intsD ds).map fun ns => .int ns.sum
  | .maxd, [.list ds, .int d] => (intsD ds).map fun ns => .int ((bestD max ns).getD d)
  | .tupZ, [x, y] => zipT x y
  | _, _ => none

/-! ### dicts, their keys tuples of ints -/
def keyI : PyData → Option (List Int)
  | .tuple ds => intsD ds
  | _ => none
def pairI : PyData → Option (List Int × PyData)
  | .tuple [k, v] => (keyI k).map (·, v)
  | _ => none
def dgetP (ks : List Int) (p : PyData) : Option PyData := (pairI p).bind fun q => if q.1 = ks then some q.2 else none
def dget (kvs : List PyData) (ks : List Int) : Option PyData := kvs.findSome? (dgetP ks)
def mkP (ks : List Int) (v : PyData) : PyData := .tuple [.tuple (ks.map .int), v]
def dput (kvs : List PyData) (ks : List Int) (v : PyData) : List PyData :=
  if (dget kvs ks).isSome = true then kvs.map fun p => if (dgetP ks p).isSome = true then mkP ks v else p else kvs ++ [mkP ks v]
def dkey : PyData → PyData
  | .tuple [k, _] => k
  | p => p

/-! ### stores -/
def frz (st : Mem) : W → Option (PyData × Mem)
  | .val d => some (d, st)
  | .loc n => st[n]?.map fun c => (.list c.2, st.set n (false, c.2))
  | .scr _ => none
  | .pk _ _ => none
  | .dic _ => none
def frzs (st : Mem) : List W → Option (List PyData × Mem)
  | [] => some ([], st)
  | w :: ws => (frz st w).bind fun (d, s1) => (frzs s1 ws).bind fun (ds, s2) => some (d :: ds, s2)
def looks (st : Mem) : List W → Option (List PyData)
  | [] => some []
  | w :: ws => (look st w).bind fun d => (looks st ws).bind fun ds => some (d :: ds)
def mtD : Mt → List PyData → List W → Mem → Option (List PyData × Mem)
  | .app, ds, [w], st => (frz st w).bind fun (d, s1) => if ds.length < lineN then some (ds ++ [d], s1) else none
  | .ext, ds, [w], st => match lookD st w with
    | some (.list es) => if ds.length + es.length ≤ lineN then some (ds ++ es, st) else none
    | some (.tuple es) => if ds.length + es.length ≤ lineN then some (ds ++ es, st) else none
    | _ => none
  | .ins, ds, [.val (.int i), w], st => (frz st w).bind fun (d, s1) => if 0 ≤ i ∧ i < 2 ^ 63 ∧ ds.length < lineN then some (ds.take i.toNat ++ [d] ++ ds.drop i.toNat, s1) else none
  | .pop, ds, [], st => if ds.isEmpty then none else some (ds.dropLast, st)
  | _, _, _, _ => none
/-- what a method hands back -/
def mtV : Mt → List PyData → PyData
  | .pop, ds => ds.getLastD .none
  | _, _ => .none
mutual
def bindT : Tg → W → Rho → Option Rho
  | .name i, w, r => some (r.set i (some w))
  | .tup ts, .val (.tuple ds), r => bindTs ts (ds.map .val) r
  | .tup ts, .val (.list ds), r => bindTs ts (ds.map .val) r
  | .tup ts, .pk n ds, r => bindTs ts (.loc n :: ds.map .val) r
  | _, _, _ => none
def bindTs : Tgs → List W → Rho → Option Rho
  | .nil, [], r => some r
  | .cons t ts, w :: ws, r => (bindT t w r).bind fun r1 => bindTs ts ws r1
  | _, _, _ => none
end
def wipeR (r : Rho) : List Nat → Rho
  | [] => r
  | v :: vs => (wipeR r vs).set v none
/-- the places that a loop reads stay -/
def Stay (ls : List Nat) (st st' : Mem) : Prop := ∀ n ∈ ls, st'[n]? = st[n]?
open Classical in
noncomputable def lcLoop (f : PyData → Mem → Option (Option PyData × Mem)) (ls : List Nat) (st0 : Mem) : List PyData → Mem → Option (List PyData × Mem)
  | [], st => some ([], st)
  | x :: xs, st => (f x st).bind fun (o, s1) => if Stay ls st0 s1 then
      (lcLoop f ls st0 xs s1).bind fun (ds, s2) => some ((match o with | some d => d :: ds | none => ds), s2) else none
def isNn : W → Bool
  | .val .none => true
  | _ => false
abbrev CallF := Nat → List W → Mem → Option (W × Mem)
def locs1 : W → List Nat
  | .loc n => [n]
  | _ => []
def seqOf (st : Mem) (w : W) : Option (List PyData) := match look st w with
  | some (.list ds) => some ds
  | some (.tuple ds) => some ds
  | _ => none
/-- the pairs of two lists -/
def zipLs (st : Mem) : List W → Option (List PyData)
  | [x, y] => match look st x, look st y with
    | some (.list xs), some (.list ys) => some (List.zipWith (fun u v => .tuple [u, v]) xs ys)
    | _, _ => none
  | _ => none
def catLs : PyData → PyData → Option (List PyData)
  | .list xs, .list ys => catD xs ys
  | _, _ => none
/-- what a for goes over; a dict is written no more from then on -/
def itemsOf (st : Mem) : W → Option (List PyData × List Nat × Mem)
  | .dic n => st[n]?.map fun c => (c.2.map dkey, [], st.set n (false, c.2))
  | w => (seqOf st w).map fun ds => (ds, locs1 w, st)
/-- x[y] -/
def idxW (st : Mem) : W → W → Option PyData
  | .dic n, y => (look st y).bind fun k => (keyI k).bind fun ks => st[n]?.bind fun c => dget c.2 ks
  | x, y => (look st x).bind fun dx => (look st y).bind fun dy => idxD dx dy
def listOfW (st : Mem) (w : W) : Option (List PyData) := match look st w with
  | some (.list ds) => some ds
  | some (.tuple ds) => some ds
  | _ => none
def rngD (lo : Int) (n : Nat) : List PyData := (List.range n).map fun k => .int (lo + (k : Nat))
def enumD : Nat → List PyData → List PyData
  | _, [] => []
  | k, d :: ds => .tuple [.int (k : Nat), d] :: enumD (k + 1) ds
mutual
noncomputable def ev (C : CallF) : Ex → Rho → Mem → Option (W × Mem)
  | .var i, r, st => (r[i]?.bind id).map fun w => (w, st)
  | .con d, _, st => some (.val d, st)
  | .bin o a b, r, st => (ev C a r st).bind fun (x, s1) => (ev C b r s1).bind fun (y, s2) =>
      (lookD s2 x).bind fun dx => (lookD s2 y).bind fun dy => (bop o dx dy).map fun d => (.val d, s2)
  | .neg a, r, st => (ev C a r st).bind fun (x, s1) => match x with
      | .val (.int i) => some (.val (.int (-i)), s1)
      | _ => none
  | .cmp o a b, r, st => (ev C a r st).bind fun (x, s1) => (ev C b r s1).bind fun (y, s2) =>
      (lookD s2 x).bind fun dx => (lookD s2 y).bind fun dy => (cop o dx dy).map fun d => (.val (.bool d), s2)
  | .isN a, r, st => (ev C a r st).map fun (x, s1) => (.val (.bool (isNn x)), s1)
  | .notN a, r, st => (ev C a r st).map fun (x, s1) => (.val (.bool (!isNn x)), s1)
  | .isC b a, r, st => (ev C a r st).bind fun (x, s1) => match x with
    | .val (.bool c) => some (.val (.bool (c == b)), s1)
    | _ => none
  | .chain o p a b c, r, st => (ev C a r st).bind fun (x, s1) => (ev C b r s1).bind fun (y, s2) =>
      (lookD s2 x).bind fun dx => (lookD s2 y).bind fun dy => (cop o dx dy).bind fun k =>
        if k then (ev C c r s2).bind fun (z, s3) => (lookD s3 y).bind fun dy' => (lookD s3 z).bind fun dz => (cop p dy' dz).map fun d => (.val (.bool d), s3)
        else some (.val (.bool false), s2)
  | .and2 a b, r, st => (ev C a r st).bind fun (x, s1) => match x with
      | .val (.bool true) => ev C b r s1
      | .val (.bool false) => some (.val (.bool false), s1)
      | _ => none
  | .or2 a b, r, st => (ev C a r st).bind fun (x, s1) => match x with
      | .val (.bool true) => some (.val (.bool true), s1)
      | .val (.bool false) => ev C b r s1
      | _ => none
  | .orV a b, r, st => (ev C a r st).bind fun (x, s1) => match x with
      | .val .none => ev C b r s1
      | .val (.tuple (d :: ds)) => some (.val (.tuple (d :: ds)), s1)
      | _ => none
  | .not1 a, r, st => (ev C a r st).bind fun (x, s1) => match x with
      | .val (.bool b) => some (.val (.bool (!b)), s1)
      | _ => none
  | .ife c a b, r, st => (ev C c r st).bind fun (x, s1) => match x with
      | .val (.bool true) => ev C a r s1
      | .val (.bool false) => ev C b r s1
      | _ => none
  | .tup es, r, st => (evs C es r st).bind fun (ws, s1) => (frzs s1 ws).bind fun (ds, s2) => some (.val (.tuple ds), s2)
  | .fr f, r, st => (evF C f r st).bind fun (ds, s1) => some (.val (.list ds), s1)
  | .idx a i, r, st => (ev C a r st).bind fun (x, s1) => (ev C i r s1).bind fun (y, s2) =>
      (idxW s2 x y).map fun d => (.val d, s2)
  | .pk i es, r, st => (r[i]?.bind id).bind fun x => (evs C es r st).bind fun (ws, s1) => (frzs s1 ws).bind fun (ds, s2) => match x with
      | .loc n => if ds.length < lineN then some (.pk n ds, s2) else none
      | _ => none
  | .slc a lo hi, r, st => (ev C a r st).bind fun (x, s1) => (evs C lo r s1).bind fun (l, s2) => (looks s2 l).bind fun dl => (part1 dl).bind fun pl =>
      (evs C hi r s2).bind fun (h, s3) => (looks s3 h).bind fun dh => (part1 dh).bind fun ph => (lookD s3 x).bind fun dx => (slcD dx pl ph).map fun d => (.val d, s3)
  | .call f es, r, st => (evs C es r st).bind fun (ws, s1) => C f ws s1
  | .blt b es, r, st => (evs C es r st).bind fun (ws, s1) => (looks s1 ws).bind fun ds => (bltD b ds).map fun d => (.val d, s1)
  | .mt o a es, r, st => (ev C a r st).bind fun (x, s1) => (evs C es r s1).bind fun (ws, s2) => match x with
      | .loc n => match s2[n]? with
        | some (true, ds) => (mtD o ds ws s2).bind fun (ds', s3) => match s3[n]? with
          | some (true, _) => some (.val (mtV o ds), s3.set n (true, ds'))
          | _ => none
        | _ => none
      | _ => none
  | .dlk kvs a, r, st => (ev C a r st).bind fun (x, s1) => match x with
      | .val (.str z) => (kvs.lookup z).map fun d => (.val d, s1)
      | _ => none
noncomputable def evF (C : CallF) : Fx → Rho → Mem → Option (List PyData × Mem)
  | .disp es, r, st => (evs C es r st).bind fun (ws, s1) => frzs s1 ws
  | .lc elt tg it cond own, r, st => (evI C it r st).bind fun (xs, ls, s0) =>
      lcLoop (fun x st => (bindT tg (.val x) (wipeR r own)).bind fun r1 => (evC C cond r1 st).bind fun (k, s1) =>
        if k then (ev C elt r1 s1).bind fun (w, s2) => (frz s2 w).bind fun (d, s3) => some (some d, s3) else some (none, s1)) ls s0 xs s0
  | .listOf a, r, st => (ev C a r st).bind fun (x, s1) => (seqOf s1 x).map fun ds => (ds, s1)
  | .zipL es, r, st => (evs C es r st).bind fun (ws, s1) => (zipLs s1 ws).map fun ds => (ds, s1)
  | .cat a b, r, st => (ev C a r st).bind fun (x, s1) => (ev C b r s1).bind fun (y, s2) => (lookD s2 x).bind fun dx => (lookD s2 y).bind fun dy => (catLs dx dy).map fun ds => (ds, s2)
noncomputable def evC (C : CallF) : Exs → Rho → Mem → Option (Bool × Mem)
  | .nil, _, st => some (true, st)
  | .cons e .nil, r, st => (ev C e r st).bind fun (x, s1) => match x with
      | .val (.bool k) => some (k, s1)
      | _ => none
  | _, _, _ => none
noncomputable def evI (C : CallF) : Itx → Rho → Mem → Option (List PyData × List Nat × Mem)
  | .seq a, r, st => (ev C a r st).bind fun (x, s1) => itemsOf s1 x
  | .rng1 a, r, st => (ev C a r st).bind fun (x, s1) => match x with
      | .val (.int j) => if -(2 ^ 60) ≤ j ∧ j ≤ (lineN : Nat) then some (rngD 0 j.toNat, [], s1) else none
      | _ => none
  | .rng2 a b, r, st => (ev C a r st).bind fun (x, s1) => (ev C b r s1).bind fun (y, s2) => match x, y with
      | .val (.int i), .val (.int j) => if -(2 ^ 60) ≤ i ∧ i < 2 ^ 60 ∧ -(2 ^ 60) ≤ j ∧ j ≤ i + (lineN : Nat) then some (rngD i (j - i).toNat, [], s2) else none
      | _, _ => none
  | .enum a, r, st => (ev C a r st).bind fun (x, s1) => (listOfW s1 x).map fun ds => (enumD 0 ds, locs1 x, s1)
  | .zip a b, r, st => (ev C a r st).bind fun (x, s1) => (ev C b r s1).bind fun (y, s2) =>
      (look s2 x).bind fun dx => (look s2 y).bind fun dy => match dx, dy with
        | .list xs, .list ys => some (List.zipWith (fun u v => .tuple [u, v]) xs ys, locs1 x ++ locs1 y, s2)
        | .tuple xs, .tuple ys => some (List.zipWith (fun u v => .tuple [u, v]) xs ys, [], s2)
        | .list xs, .tuple ys => some (List.zipWith (fun u v => .tuple [u, v]) xs ys, locs1 x ++ locs1 y, s2)
        | .tuple xs, .list ys => some (List.zipWith (fun u v => .tuple [u, v]) xs ys, locs1 x ++ locs1 y, s2)
        | _, _ => none
  | .zipR a b, r, st => (ev C a r st).bind fun (x, s1) => (ev C b r s1).bind fun (y, s2) =>
      (look s2 x).bind fun dx => (look s2 y).bind fun dy => match dx, dy with
        | .list xs, .tuple ys => some (List.zipWith (fun u v => .tuple [u, v]) xs ys.reverse, locs1 x ++ locs1 y, s2)
        | .tuple xs, .tuple ys => some (List.zipWith (fun u v => .tuple [u, v]) xs ys.reverse, locs1 x ++ locs1 y, s2)
        | _, _ => none
noncomputable def evs (C : CallF) : Exs → Rho → Mem → Option (List W × Mem)
  | .nil, _, st => some ([], st)
  | .cons e es, r, st => (ev C e r st).bind fun (w, s1) => (evs C es r s1).bind fun (ws, s2) => some (w :: ws, s2)
end

inductive Out | nx | brk | ct | ret (w : W)
abbrev Res := Option (Out × Rho × Mem)
/-- so many turns of a while at most -/
noncomputable def whlN (c : Rho → Mem → Option (Bool × Mem)) (b : Rho → Mem → Res) : Nat → Rho → Mem → Res
  | 0, _, _ => none
  | n + 1, r, st => (c r st).bind fun (k, s1) => if k then (b r s1).bind fun (o, r1, s2) => match o with
      | .nx => whlN c b n r1 s2
      | .ct => whlN c b n r1 s2
      | .brk => some (.nx, r1, s2)
      | .ret w => some (.ret w, r1, s2) else some (.nx, r, s1)
open Classical in
noncomputable def whl (c : Rho → Mem → Option (Bool × Mem)) (b : Rho → Mem → Res) (r : Rho) (st : Mem) : Res :=
  if h : ∃ n x, whlN c b n r st = some x then whlN c b h.choose r st else none
theorem whlN_more {c : Rho → Mem → Option (Bool × Mem)} {b : Rho → Mem → Res} : ∀ {n : Nat} {r : Rho} {st : Mem} {x : Out × Rho × Mem}, whlN c b n r st = some x → ∀ k, whlN c b (n + k) r st = some x
  | 0, _, _, _, h, _ => by cases h
  | n + 1, r, st, x, h, k => by
    rw [show n + 1 + k = (n + k) + 1 by omega]
    unfold whlN at h ⊢
    cases hc : c r st with
    | none => rw [hc] at h; cases h
    | some p =>
      obtain ⟨q, s1⟩ := p
      rw [hc] at h
      simp only [Option.bind_some] at h ⊢
      cases q with
      | false => exact h
      | true =>
        simp only [if_true] at h ⊢
        cases hb : b r s1 with
        | none => rw [hb] at h; cases h
        | some p =>
          obtain ⟨o, r1, s2⟩ := p
          rw [hb] at h
          simp only [Option.bind_some] at h ⊢
          cases o with
          | nx => exact whlN_more h k
          | ct => exact whlN_more h k
          | brk => exact h
          | ret w => exact h
theorem whl_of {c : Rho → Mem → Option (Bool × Mem)} {b : Rho → Mem → Res} {n : Nat} {r : Rho} {st : Mem} {x : Out × Rho × Mem} (h : whlN c b n r st = some x) : whl c b r st = some x := by
  unfold whl
  have hh : ∃ n x, whlN c b n r st = some x := ⟨n, x, h⟩
  rw [dif_pos hh]
  obtain ⟨y, hy⟩ := hh.choose_spec
  have h1 := whlN_more h hh.choose
  have h2 := whlN_more hy n
  rw [Nat.add_comm] at h2
  rw [hy]
  exact h2.symm.trans h1
theorem whl_has {c : Rho → Mem → Option (Bool × Mem)} {b : Rho → Mem → Res} {r : Rho} {st : Mem} {x : Out × Rho × Mem} (h : whl c b r st = some x) : ∃ n, whlN c b n r st = some x := by
  unfold whl at h
  split at h
  · exact ⟨_, h⟩
  · cases h
/-- a while's one turn -/
theorem whl_eq (c : Rho → Mem → Option (Bool × Mem)) (b : Rho → Mem → Res) (r : Rho) (st : Mem) : whl c b r st = (c r st).bind fun (k, s1) => if k then (b r s1).bind fun (o, r1, s2) => match o with
      | .nx => whl c b r1 s2
      | .ct => whl c b r1 s2
      | .brk => some (.nx, r1, s2)
      | .ret w => some (.ret w, r1, s2) else some (.nx, r, s1) := by
  cases hc : c r st with
  | none =>
    rw [Option.bind_none]
    cases hw : whl c b r st with
    | none => rfl
    | some x =>
      obtain ⟨n, h⟩ := whl_has hw
      cases n with
      | zero => cases h
      | succ n => unfold whlN at h; rw [hc] at h; cases h
  | some p =>
    obtain ⟨q, s1⟩ := p
    simp only [Option.bind_some]
    have one : ∀ {x}, whlN c b 1 r st = some x → whl c b r st = some x := fun h => whl_of h
    cases q with
    | false =>
      simp only [Bool.false_eq_true, if_false]
      exact one (by unfold whlN; rw [hc]; rfl)
    | true =>
      simp only [if_true]
      cases hb : b r s1 with
      | none =>
        rw [Option.bind_none]
        cases hw : whl c b r st with
        | none => rfl
        | some x =>
          obtain ⟨n, h⟩ := whl_has hw
          cases n with
          | zero => cases h
          | succ n => unfold whlN at h; rw [hc] at h; simp only [Option.bind_some, if_true, hb] at h; cases h
      | some p =>
        obtain ⟨o, r1, s2⟩ := p
        simp only [Option.bind_some]
        have go : ∀ {y : Res}, (∀ n, whlN c b (n + 1) r st = whlN c b n r1 s2) → whl c b r st = whl c b r1 s2 := fun hh => by
          cases hw : whl c b r1 s2 with
          | some x =>
            obtain ⟨n, h⟩ := whl_has hw
            exact whl_of (n := n + 1) (by rw [hh]; exact h)
          | none =>
            cases hw2 : whl c b r st with
            | none => rfl
            | some x =>
              obtain ⟨n, h⟩ := whl_has hw2
              cases n with
              | zero => cases h
              | succ n => rw [hh] at h; rw [whl_of h] at hw; cases hw
        cases o with
        | nx =>
          refine go (y := none) fun n => ?_
          conv => lhs; unfold whlN
          simp only [hc, Option.bind_some, if_true, hb]
        | ct =>
          refine go (y := none) fun n => ?_
          conv => lhs; unfold whlN
          simp only [hc, Option.bind_some, if_true, hb]
        | brk => exact one (by unfold whlN; simp only [hc, Option.bind_some, if_true, hb])
        | ret w => exact one (by unfold whlN; simp only [hc, Option.bind_some, if_true, hb])

open Classical in
noncomputable def forLoop (f : PyData → Rho → Mem → Res) (ls : List Nat) (st0 : Mem) : List PyData → Rho → Mem → Res
  | [], r, st => some (.nx, r, st)
  | x :: xs, r, st => (f x r st).bind fun (o, r1, s1) => match o with
      | .nx => if Stay ls st0 s1 then forLoop f ls st0 xs r1 s1 else none
      | .ct => if Stay ls st0 s1 then forLoop f ls st0 xs r1 s1 else none
      | .brk => some (.nx, r1, s1)
      | .ret w => some (.ret w, r1, s1)
def sets (r : Rho) : List Nat → List W → Option Rho
  | [], [] => some r
  | i :: is, w :: ws => sets (r.set i (some w)) is ws
  | _, _ => none
mutual
noncomputable def ex (C : CallF) : Sx → Rho → Mem → Res
  | .asg i e, r, st => (ev C e r st).bind fun (w, s1) => some (.nx, r.set i (some w), s1)
  | .new i f, r, st => (evF C f r st).bind fun (ds, s1) => some (.nx, r.set i (some (.loc s1.length)), s1 ++ [(true, ds)])
  | .newD i, r, st => some (.nx, r.set i (some (.dic st.length)), st ++ [(true, [])])
  | .asgT ts e, r, st => (ev C e r st).bind fun (w, s1) => (bindT (.tup ts) w r).bind fun r1 => some (.nx, r1, s1)
  | .par is es, r, st => (evs C es r st).bind fun (ws, s1) => (sets r is ws).bind fun r1 => some (.nx, r1, s1)
  | .setI a i e, r, st => (ev C e r st).bind fun (z, s1) => (ev C a r s1).bind fun (x, s2) => (ev C i r s2).bind fun (y, s3) => (frz s3 z).bind fun (d, s4) =>
      match x, y with
      | .loc n, .val (.int k) => match s4[n]? with
        | some (true, ds) => (ixN ds.length k).bind fun j => some (.nx, r, s4.set n (true, ds.set j d))
        | _ => none
      | .dic n, .val k => match s4[n]? with
        | some (true, ds) => (keyI k).bind fun ks => if ds.length < lineN then some (.nx, r, s4.set n (true, dput ds ks d)) else none
        | _ => none
      | _, _ => none
  | .aug i o e, r, st => (r[i]?.bind id).bind fun x => (ev C e r st).bind fun (y, s1) => match x, y with
      | .val (.int a), .val (.int b) => (bop o (.int a) (.int b)).bind fun d => some (.nx, r.set i (some (.val d)), s1)
      | _, _ => none
  | .expr e, r, st => (ev C e r st).bind fun (_, s1) => some (.nx, r, s1)
  | .ite c t f, r, st => (ev C c r st).bind fun (x, s1) => match x with
      | .val (.bool true) => exs C t r s1
      | .val (.bool false) => exs C f r s1
      | _ => none
  | .whl c b, r, st => whl (fun r st => (ev C c r st).bind fun (x, s1) => match x with
      | .val (.bool k) => some (k, s1)
      | _ => none) (fun r st => exs C b r st) r st
  | .for1 tg it b, r, st => (evI C it r st).bind fun (xs, ls, s0) =>
      forLoop (fun x r st => (bindT tg (.val x) r).bind fun r1 => exs C b r1 st) ls s0 xs r s0
  | .ret e, r, st => (ev C e r st).bind fun (w, s1) => some (.ret w, r, s1)
  | .retF f, r, st => (evF C f r st).bind fun (ds, s1) => some (.ret (.loc s1.length), r, s1 ++ [(true, ds)])
  | .retN, r, st => some (.ret (.val .none), r, st)
  | .brk, r, st => some (.brk, r, st)
  | .ctn, r, st => some (.ct, r, st)
  | .pass, r, st => some (.nx, r, st)
noncomputable def exs (C : CallF) : Sxs → Rho → Mem → Res
  | .nil, r, st => some (.nx, r, st)
  | .cons s ss, r, st => (ex C s r st).bind fun (o, r1, s1) => match o with
      | .nx => exs C ss r1 s1
      | _ => some (o, r1, s1)
end

/-! ### defs -/
structure Fd where
  np : Nat
  ns : Nat
  body : Sxs
  live : Bool
def leave (live : Bool) (n0 : Nat) (st : Mem) : W → Option (W × Mem)
  | .val d => some (.val d, st.take n0)
  | .scr ns => some (.scr ns, st.take n0)
  | .loc n => if n < n0 then some (.loc n, st.take n0) else st[n]?.map fun c =>
      if live && c.1 then (.loc n0, st.take n0 ++ [c]) else (.val (.list c.2), st.take n0)
  | .pk n ds => if n < n0 then some (.pk n ds, st.take n0) else st[n]?.bind fun c =>
      if live && c.1 then some (.pk n0 ds, st.take n0 ++ [c]) else none
  | .dic _ => none
abbrev Prg := List Fd
def out1 : Out → Option W
  | .ret w => some w
  | .nx => some (.val .none)
  | _ => none
noncomputable def callN (P : Prg) : Nat → CallF
  | 0, _, _, _ => none
  | k + 1, f, ws, st => P[f]?.bind fun d => if ws.length = d.np then
      (exs (callN P k) d.body (ws.map some ++ List.replicate (d.ns - ws.length) none) st).bind fun (o, _, s1) => (out1 o).bind fun w => leave d.live st.length s1 w else none
end Sk

/-! Sk3: readings, and the soundness of expressions' parts -/
namespace Sk
open PySem PySem.Spec PyProof.Rows L2

/-- more is tracked, nothing is changed -/
def Gr (H H' : Hp) : Prop := ∀ a o, H a = some o → H' a = some o
theorem Gr.refl (H : Hp) : Gr H H := fun _ _ h => h
theorem Gr.new {H : Hp} {p : Addr} {o : HO} (h : H p = none) : Gr H (upd H p o) := fun a u e => by
  rw [upd_ne (ne_of_none e h)]
  exact e
section
variable {K : PySem.W.Frag} {H H' : Hp} {L : Ad} {m : List Addr} {st : Mem}
theorem StOk.gr (s : StOk K H L m st) (g : Gr H H') : StOk K H' L m st := by
  refine ⟨s.len, s.nd, fun a l e => ?_, fun n c a h1 h2 => ?_⟩
  · have q := s.trk a l
    cases hh : H a with
    | none => exact q hh
    | some o => rw [g a o hh] at e; cases e
  · have q := s.cell n c a h1 h2
    obtain ⟨vs, hv⟩ := q.has
    exact q.mono (fun a o h n => ⟨g a o h, n⟩) (by rw [g _ _ hv, hv]) id id
theorem StOk.ext (s : StOk K H L m st) (g : Gr H H') : Ext H L m H' L m := Ext.same g s.trk
theorem Rep.gr (g : Gr H H') {d : PyData} {v : V} (h : Rep K H L v d) : Rep K H' L v d := Rep.mono (fun a o h n => ⟨g a o h, n⟩) d v h
theorem RepA.gr (g : Gr H H') {d : List PyData} {v : List V} (h : RepA K H L v d) : RepA K H' L v d := RepA.mono (fun a o h n => ⟨g a o h, n⟩) d v h
end

/-! ### readings -/
/-- what is wanted of a value and the store behind an expression -/
def QE (K : PySem.W.Frag) (H : Hp) (L : Ad) (m : List Addr) (w : W) (st' : Mem) (Q : VK) : Prop :=
  ∀ v H' L' m', Ext H L m H' L' m' → StOk K H' L' m' st' → RepW K H' L' m' v w → Q v H'
def QT (K : PySem.W.Frag) (H : Hp) (L : Ad) (m : List Addr) (st' : Mem) (Q : Hp → Prop) : Prop :=
  ∀ H' L' m', Ext H L m H' L' m' → StOk K H' L' m' st' → Q H'
def QA (K : PySem.W.Frag) (H : Hp) (L : Ad) (m : List Addr) (ws : List W) (st' : Mem) (Q : List V → Hp → Prop) : Prop :=
  ∀ vs H' L' m', Ext H L m H' L' m' → StOk K H' L' m' st' → RepWs K H' L' m' vs ws → Q vs H'
def tE (K : PySem.W.Frag) (C : CallF) (e : Ex) : TE := fun σ H Q => ∃ L m r st w st',
  EnvOk K H L m r σ ∧ StOk K H L m st ∧ ev C e r st = some (w, st') ∧ QE K H L m w st' Q
def tT (K : PySem.W.Frag) (C : CallF) (e : Ex) : TT := fun σ H Q => ∃ L m r st k st',
  EnvOk K H L m r σ ∧ StOk K H L m st ∧ ev C e r st = some (.val (.bool k), st') ∧ QT K H L m st' (Q k)
def tA (K : PySem.W.Frag) (C : CallF) (es : Exs) : TA := fun σ H Q => ∃ L m r st ws st',
  EnvOk K H L m r σ ∧ StOk K H L m st ∧ evs C es r st = some (ws, st') ∧ QA K H L m ws st' Q
/-- a list made anew: it stands at p, nobody's -/
def QF (K : PySem.W.Frag) (H : Hp) (L : Ad) (m : List Addr) (ds : List PyData) (st' : Mem) (Q : VK) : Prop :=
  ∀ p H1 L' m' vs, Ext H L m H1 L' m' → StOk K H1 L' m' st' → H1 p = none → vs.length ≤ sizeLine → RepA K H1 L' vs ds → Q (.ref p) (upd H1 p (.lst vs))
def tF (K : PySem.W.Frag) (C : CallF) (f : Fx) : TE := fun σ H Q => ∃ L m r st ds st',
  EnvOk K H L m r σ ∧ StOk K H L m st ∧ evF C f r st = some (ds, st') ∧ QF K H L m ds st' Q

theorem _root_.L2.PE.weak {X : Cx} {e : Expr} {t t' : TE} (h : PE X e t) (w : ∀ σ H Q, t' σ H Q → t σ H Q) : PE X e t' := ⟨fun pins s σ H Q I q => h.run pins s σ H Q I (w σ H Q q)⟩
theorem _root_.L2.PT.weak {X : Cx} {e : Expr} {t t' : TT} (h : PT X e t) (w : ∀ σ H Q, t' σ H Q → t σ H Q) : PT X e t' := ⟨fun pins s σ H Q I q => h.run pins s σ H Q I (w σ H Q q)⟩
theorem _root_.L2.PW.weak {X : Cx} {e : Expr} {t t' : TT} (h : PW X e t) (w : ∀ σ H Q, t' σ H Q → t σ H Q) : PW X e t' := ⟨fun wh pins s σ H Q I q => h.run wh pins s σ H Q I (w σ H Q q)⟩
theorem _root_.L2.PA.weak {X : Cx} {e : List Expr} {t t' : TA} (h : PA X e t) (w : ∀ σ H Q, t' σ H Q → t σ H Q) : PA X e t' := ⟨fun pos pins s σ H Q I q => h.run pos pins s σ H Q I (w σ H Q q)⟩
theorem _root_.L2.PS.weak {X : Cx} {e : Stmt} {t t' : TS} (h : PS X e t) (w : ∀ D σ H, t' D σ H → t D σ H) : PS X e t' := ⟨fun pins s σ H D I q => h.run pins s σ H D I (w D σ H q)⟩
theorem _root_.L2.PSs.weak {X : Cx} {e : List Stmt} {t t' : TS} (h : PSs X e t) (w : ∀ D σ H, t' D σ H → t D σ H) : PSs X e t' := ⟨fun pins s σ H D I q => h.run pins s σ H D I (w D σ H q)⟩

section
variable {X : Cx} {C : CallF} {pos : Pos}

theorem QE.here {K : PySem.W.Frag} {H : Hp} {L : Ad} {m : List Addr} {w : W} {st : Mem} {Q : VK} (q : QE K H L m w st Q) (s : StOk K H L m st) {v : V} (h : RepW K H L m v w) : Q v H := q v H L m .refl s h
/-- behind a step that only lays new things -/
theorem QE.grown {K : PySem.W.Frag} {H H1 H2 : Hp} {L L1 : Ad} {m m1 : List Addr} {d : PyData} {st : Mem} {Q : VK} (q : QE K H L m (.val d) st Q) (e : Ext H L m H1 L1 m1) (s : StOk K H1 L1 m1 st) (g : Gr H1 H2) {v : V} (h : Rep K H2 L1 v d) : Q v H2 :=
  q v H2 L1 m1 (e.trans (s.ext g)) (s.gr g) (.val h)

theorem s_var {i : Nat} {x : Str} (hN : X.N[i]? = some x) (hv : Vis X.env.scope x) (hd : (x == ("__debug__" : Str)) = false) (hcd : (x == ("__classdict__" : Str)) = false) : PE X (.Name x pos) (tE X.K C (.var i)) :=
  (pe_var hN hv hd hcd).weak fun σ H Q ⟨L, m, r, st, w, st', he, hs, h, q⟩ => by
    simp only [ev, Option.map_eq_some_iff, Option.bind_eq_some_iff, id] at h
    obtain ⟨w', ⟨o, h1, h2⟩, h3⟩ := h
    cases h3
    subst h2
    obtain ⟨v, e, rv⟩ := he.get i w h1
    exact ⟨v, e, q.here hs rv⟩
theorem s_con {e : Expr} {v : V} {d : PyData} (h : PE X e (tC v)) (r : ∀ H L, Rep X.K H L v d) : PE X e (tE X.K C (.con d)) :=
  h.weak fun σ H Q ⟨L, m, ρ, st, w, st', he, hs, h, q⟩ => by
    simp only [ev] at h
    cases h
    exact q.here hs (.val (r H L))

/-! ### operators by values -/
/-- a strict operation upon two read data -/
def rD (K : PySem.W.Frag) (f : PyData → PyData → Option PyData) : R2 := fun x y H Q => ∃ L m st dx dy d, StOk K H L m st ∧ RepT K H L x dx ∧ RepT K H L y dy ∧ f dx dy = some d ∧
  ∀ v H', Gr H H' → Rep K H' L v d → Q v H'
theorem s_bin {op : Operator} {o : BOp} {a b : Expr} {ia ib : Ex} (ho : OpR X (binaryOp op) (rD X.K (bop o))) (ha : PE X a (tE X.K C ia)) (hb : PE X b (tE X.K C ib)) : PE X (.BinOp a op b pos) (tE X.K C (.bin o ia ib)) :=
  (pe_op ho ha hb).weak fun σ H Q ⟨L, m, r, st, w, st', he, hs, h, q⟩ => by
    simp only [ev, Option.bind_eq_some_iff, Option.map_eq_some_iff, Prod.exists] at h
    obtain ⟨x, s1, h1, y, s2, h2, dx, h3, dy, h4, d, h5, h6⟩ := h
    cases h6
    refine ⟨L, m, r, st, x, s1, he, hs, h1, fun v1 H1 L1 m1 e1 k1 r1 => ⟨L1, m1, r, s1, y, _, he.mono e1, k1, h2, fun v2 H2 Lb m2 e2 k2 r2 => ?_⟩⟩
    exact ⟨Lb, m2, _, dx, dy, d, k2, (r1.mono e2).lk k2 h3, r2.lk k2 h4, h5, fun v H' g rv => q.grown (e1.trans e2) k2 g rv⟩
theorem s_cmp {op : CmpOp} {o : COp} {a b : Expr} {ia ib : Ex} (ho : OpR X (compareOp op) (rD X.K fun x y => (cop o x y).map .bool)) (hm : behindInMarks op b = false) (ha : PE X a (tE X.K C ia)) (hb : PE X b (tE X.K C ib)) :
    PE X (.Compare a [op] [b] pos) (tE X.K C (.cmp o ia ib)) ∧ PT X (.Compare a [op] [b] pos) (tT X.K C (.cmp o ia ib)) := by
  refine ⟨(pe_cmpR ho ha hb hm).weak fun σ H Q ⟨L, m, r, st, w, st', he, hs, h, q⟩ => ?_, (pt_cmpR ho ha hb hm).weak fun σ H Q ⟨L, m, r, st, w, st', he, hs, h, q⟩ => ?_⟩
  · simp only [ev, Option.bind_eq_some_iff, Option.map_eq_some_iff, Prod.exists] at h
    obtain ⟨x, s1, h1, y, s2, h2, dx, h3, dy, h4, d, h5, h6⟩ := h
    cases h6
    refine ⟨L, m, r, st, x, s1, he, hs, h1, fun v1 H1 L1 m1 e1 k1 r1 => ⟨L1, m1, r, s1, y, _, he.mono e1, k1, h2, fun v2 H2 Lb m2 e2 k2 r2 => ?_⟩⟩
    exact ⟨Lb, m2, _, dx, dy, .bool _, k2, (r1.mono e2).lk k2 h3, r2.lk k2 h4, (by show (cop o dx dy).map PyData.bool = _; rw [h5]; rfl), fun v H' g rv => q.grown (e1.trans e2) k2 g rv⟩
  · simp only [ev, Option.bind_eq_some_iff, Option.map_eq_some_iff, Prod.exists] at h
    obtain ⟨x, s1, h1, y, s2, h2, dx, h3, dy, h4, d, h5, h6⟩ := h
    cases h6
    refine ⟨L, m, r, st, x, s1, he, hs, h1, fun v1 H1 L1 m1 e1 k1 r1 => ⟨L1, m1, r, s1, y, _, he.mono e1, k1, h2, fun v2 H2 Lb m2 e2 k2 r2 => ?_⟩⟩
    refine ⟨Lb, m2, _, dx, dy, .bool _, k2, (r1.mono e2).lk k2 h3, r2.lk k2 h4, (by show (cop o dx dy).map PyData.bool = _; rw [h5]; rfl), fun v H' g rv => ?_⟩
    cases rv
    exact ⟨_, rfl, q H' Lb m2 ((e1.trans e2).trans (k2.ext g)) (k2.gr g)⟩

theorem RepT.toInt {K : PySem.W.Frag} {H : Hp} {L : Ad} {v : V} {i : Int} (h : RepT K H L v (.int i)) : v = .int i := by cases h with | val h => cases h; rfl
theorem RepT.toStr {K : PySem.W.Frag} {H : Hp} {L : Ad} {v : V} {i : Str} (h : RepT K H L v (.str i)) : v = .str i := by cases h with | val h => cases h; rfl
theorem line_le : lineN ≤ sizeLine := by unfold lineN; decide
theorem line_lt {n : Nat} (h : n < lineN) : n < sizeLine := Nat.lt_of_lt_of_le h line_le

theorem op_addD : OpR X (binaryOp .Add) (rD X.K (bop .add)) := by
  intro pins s σ H x y v u Q I rx ry h
  obtain ⟨L, m, st, dx, dy, d, k, hx, hy, e, q⟩ := h
  unfold bop at e
  split at e
  all_goals first | (exfalso; simp_all; done) | skip
  · obtain rfl := hx.toInt
    obtain rfl := hy.toInt
    cases e
    exact op_add pins s σ H _ _ v u Q I rx ry ⟨_, _, rfl, rfl, q _ H (.refl _) (.int _)⟩
  · obtain rfl := hx.toStr
    obtain rfl := hy.toStr
    split at e
    · cases e
      exact op_add_str pins s σ H _ _ v u Q I rx ry ⟨_, _, rfl, rfl, Nat.le_trans (by assumption) line_le, q _ H (.refl _) (.str _)⟩
    · cases e
  · obtain ⟨a, xs, rfl, h1, h2, h3⟩ := hx.toList
    obtain ⟨b, ys, rfl, g1, g2, g3⟩ := hy.toList
    unfold catD at e
    split at e
    · cases e
      rename_i hz
      have hl : xs.length + ys.length ≤ sizeLine := by rw [h3.length, g3.length]; exact Nat.le_trans hz line_le
      refine op_cat pins s σ H _ _ v u Q I rx ry ⟨a, b, xs, ys, rfl, rfl, h1, g1, hl, fun p hp => ?_⟩
      refine q _ _ (.new hp) (.lst upd_same (k.new hp) (by rw [List.length_append]; exact hl) ?_)
      exact (h3.append g3).gr (.new hp)
    · cases e
  · obtain ⟨a, xs, rfl, h1, h2, h3⟩ := hx.toTup
    obtain ⟨b, ys, rfl, g1, g2, g3⟩ := hy.toTup
    unfold catD at e
    split at e
    · cases e
      rename_i hz
      have hl : xs.length + ys.length ≤ sizeLine := by rw [h3.length, g3.length]; exact Nat.le_trans hz line_le
      refine op_catA pins s σ H _ _ v u Q I rx ry ⟨a, b, xs, ys, rfl, rfl, h1, g1, hl, fun z => ?_, fun _ z => ?_, fun _ _ p hp => ?_⟩
      · subst z
        cases h3
        cases hy with | val hy => exact q _ H (.refl _) hy
      · subst z
        cases g3
        cases hx with | val hx => exact q _ H (.refl _) (by simpa using hx)
      · refine q _ _ (.new hp) (.tup (.inl ⟨upd_same, k.new hp⟩) (by rw [List.length_append]; exact hl) ?_)
        exact (h3.append g3).gr (.new hp)
    · cases e
theorem op_subD : OpR X (binaryOp .Sub) (rD X.K (bop .sub)) := by
  intro pins s σ H x y v u Q I rx ry h
  obtain ⟨L, m, st, dx, dy, d, k, hx, hy, e, q⟩ := h
  unfold bop at e
  split at e
  all_goals first | (exfalso; simp_all; done) | skip
  obtain rfl := hx.toInt
  obtain rfl := hy.toInt
  cases e
  exact op_sub pins s σ H _ _ v u Q I rx ry ⟨_, _, rfl, rfl, q _ H (.refl _) (.int _)⟩
/-- a product below a hundred million bits -/
theorem mul_room {i j : Int} (h : i.natAbs.log2 + j.natAbs.log2 < 100000000) : IntMulOk i j := by
  have b : ∀ x : Int, Builtin.Int.intBits x ≤ x.natAbs.log2 + 1 := fun x => by
    unfold Builtin.Int.intBits
    split <;> omega
  have h1 := b i
  have h2 := b j
  have e : bitsLine = 134217728 := by decide
  unfold IntMulOk
  intro z
  rw [Bool.and_eq_true] at z
  have z3 := z.2
  unfold Builtin.Int.intTooBig at z3
  have z4 := of_decide_eq_true z3
  rw [e] at z4
  omega
theorem op_mulX : OpR X (binaryOp .Mult) (rI (fun i j => i.natAbs.log2 + j.natAbs.log2 < 100000000) fun i j => .int (i * j)) := opI fun _ _ _ _ _ _ _ hc q => mul_int q (mul_room hc)
theorem op_mulD : OpR X (binaryOp .Mult) (rD X.K (bop .mul)) := by
  intro pins s σ H x y v u Q I rx ry h
  obtain ⟨L, m, st, dx, dy, d, k, hx, hy, e, q⟩ := h
  unfold bop at e
  split at e
  all_goals first | (exfalso; simp_all; done) | skip
  obtain rfl := hx.toInt
  obtain rfl := hy.toInt
  split at e
  · cases e
    exact op_mulX pins s σ H _ _ v u Q I rx ry ⟨_, _, rfl, rfl, by assumption, q _ H (.refl _) (.int _)⟩
  · cases e
theorem op_divD : OpR X (binaryOp .FloorDiv) (rD X.K (bop .div)) := by
  intro pins s σ H x y v u Q I rx ry h
  obtain ⟨L, m, st, dx, dy, d, k, hx, hy, e, q⟩ := h
  unfold bop at e
  split at e
  all_goals first | (exfalso; simp_all; done) | skip
  obtain rfl := hx.toInt
  obtain rfl := hy.toInt
  split at e
  · cases e
    exact op_fdivW pins s σ H _ _ v u Q I rx ry ⟨_, _, rfl, rfl, by assumption, q _ H (.refl _) (.int _)⟩
  · cases e
theorem op_modD : OpR X (binaryOp .Mod) (rD X.K (bop .mod)) := by
  intro pins s σ H x y v u Q I rx ry h
  obtain ⟨L, m, st, dx, dy, d, k, hx, hy, e, q⟩ := h
  unfold bop at e
  split at e
  all_goals first | (exfalso; simp_all; done) | skip
  obtain rfl := hx.toInt
  obtain rfl := hy.toInt
  split at e
  · cases e
    exact op_mod pins s σ H _ _ v u Q I rx ry ⟨_, _, rfl, rfl, by assumption, q _ H (.refl _) (.int _)⟩
  · cases e
theorem op_powD : OpR X (binaryOp .Pow) (rD X.K (bop .pow)) := by
  intro pins s σ H x y v u Q I rx ry h
  obtain ⟨L, m, st, dx, dy, d, k, hx, hy, e, q⟩ := h
  unfold bop at e
  split at e
  all_goals first | (exfalso; simp_all; done) | skip
  obtain rfl := hx.toInt
  obtain rfl := hy.toInt
  split at e
  · cases e
    exact op_pow pins s σ H _ _ v u Q I rx ry ⟨_, _, rfl, rfl, by assumption, q _ H (.refl _) (.int _)⟩
  · cases e

/-! ### comparisons by values -/
theorem flat_can {d : PyData} (h : flatD d = true) : d.canLay0 = true ∧ d.depth ≤ 1 := by
  cases d <;> first | (simp_all [flatD, PyData.canLay0, PyData.depth]; done) | (exfalso; simp [flatD] at h; done)
theorem okd_can : ∀ (n : Nat) (d : PyData), okd n d = true → d.canLay0 = true ∧ d.depth ≤ n + 1 := by
  intro n
  induction n with
  | zero => intro d h; exact flat_can (by cases d <;> exact h)
  | succ n ih =>
    have all : ∀ ds : List PyData, ds.all (okd n) = true → PyData.canLayAll0 ds = true ∧ PyData.depthAll ds ≤ n + 1 := by
      intro ds
      induction ds with
      | nil => intro _; exact ⟨by simp [PyData.canLayAll0], by simp [PyData.depthAll]⟩
      | cons d ds ih2 =>
        intro h
        simp only [List.all_cons, Bool.and_eq_true] at h
        obtain ⟨h1, h2⟩ := ih d h.1
        obtain ⟨h3, h4⟩ := ih2 h.2
        refine ⟨by simp [PyData.canLayAll0, h1, h3], ?_⟩
        simp only [PyData.depthAll]
        omega
    intro d h
    cases d with
    | list ds =>
      obtain ⟨h1, h2⟩ := all ds (by simpa [okd] using h)
      exact ⟨by simpa [PyData.canLay0] using h1, by simp only [PyData.depth]; omega⟩
    | tuple ds =>
      obtain ⟨h1, h2⟩ := all ds (by simpa [okd] using h)
      exact ⟨by simpa [PyData.canLay0] using h1, by simp only [PyData.depth]; omega⟩
    | none => exact ⟨by simp [PyData.canLay0], by simp [PyData.depth]⟩
    | bool b => exact ⟨by simp [PyData.canLay0], by simp [PyData.depth]⟩
    | int i => exact ⟨by simp [PyData.canLay0], by simp [PyData.depth]⟩
    | str x => exact ⟨by simpa [PyData.canLay0, okd, flatD] using h, by simp [PyData.depth]⟩
    | dict _ => simp [okd, flatD] at h
theorem fit_shaped {d : PyData} (h : fit d = true) : SeqAt.shaped d = true := by
  obtain ⟨h1, h2⟩ := okd_can 60 d h
  unfold SeqAt.shaped
  rw [h1, Bool.true_and]
  exact decide_eq_true (by omega)
theorem eqD_cases {x y : PyData} {b : Bool} (h : eqD x y = some b) : (∃ i j, x = .int i ∧ y = .int j ∧ b = decide (i = j)) ∨ (∃ i j, x = .str i ∧ y = .str j ∧ b = decide (i = j)) ∨ (fit x = true ∧ fit y = true ∧ b = PyData.eqv x y) := by
  unfold eqD at h
  split at h
  · cases h; exact .inl ⟨_, _, rfl, rfl, rfl⟩
  · cases h; exact .inr (.inl ⟨_, _, rfl, rfl, rfl⟩)
  · split at h
    · rename_i hf
      rw [Bool.and_eq_true] at hf
      cases h
      exact .inr (.inr ⟨hf.1, hf.2, rfl⟩)
    · cases h
theorem op_eqF (hu : X.A.units + 64 < cLine) : OpR X (compareOp .Eq) (rD X.K fun x y => (cop .eq x y).map .bool) := by
  intro pins s σ H x y v u Q I rx ry h
  obtain ⟨L, m, st, dx, dy, d, k, hx, hy, e, q⟩ := h
  simp only [cop, Option.map_eq_some_iff] at e
  obtain ⟨b, e, rfl⟩ := e
  have q' := q _ H (.refl _) (.bl _)
  rcases eqD_cases e with ⟨i, j, rfl, rfl, rfl⟩ | ⟨i, j, rfl, rfl, rfl⟩ | ⟨f1, f2, rfl⟩
  · obtain rfl := hx.toInt
    obtain rfl := hy.toInt
    exact op_eq pins s σ H _ _ v u Q I rx ry ⟨rfl, by simpa using q'⟩
  · obtain rfl := hx.toStr
    obtain rfl := hy.toStr
    exact op_eq pins s σ H _ _ v u Q I rx ry ⟨rfl, by simpa using q'⟩
  · exact op_eqD hu pins s σ H x y v u Q I rx ry ⟨dx, dy, hx.dp, hy.dp, fit_shaped f1, fit_shaped f2, q'⟩
theorem op_neF (hu : X.A.units + 64 < cLine) : OpR X (compareOp .NotEq) (rD X.K fun x y => (cop .ne x y).map .bool) := by
  intro pins s σ H x y v u Q I rx ry h
  obtain ⟨L, m, st, dx, dy, d, k, hx, hy, e, q⟩ := h
  simp only [cop, Option.map_eq_some_iff] at e
  obtain ⟨b, ⟨c, e, rfl⟩, rfl⟩ := e
  have q' := q _ H (.refl _) (.bl _)
  rcases eqD_cases e with ⟨i, j, rfl, rfl, rfl⟩ | ⟨i, j, rfl, rfl, rfl⟩ | ⟨f1, f2, rfl⟩
  · obtain rfl := hx.toInt
    obtain rfl := hy.toInt
    exact op_ne pins s σ H _ _ v u Q I rx ry ⟨rfl, by simpa using q'⟩
  · obtain rfl := hx.toStr
    obtain rfl := hy.toStr
    exact op_ne pins s σ H _ _ v u Q I rx ry ⟨rfl, by simpa using q'⟩
  · exact op_neD hu pins s σ H x y v u Q I rx ry ⟨dx, dy, hx.dp, hy.dp, fit_shaped f1, fit_shaped f2, q'⟩
theorem op_ordF {op : CmpOp} {o : COp} {p : Int → Int → Bool} (ho : OpR X (compareOp op) (rI0 fun i j => .bl (p i j))) (hc : ∀ x y b, cop o x y = some b → ∃ i j, x = .int i ∧ y = .int j ∧ b = p i j) :
    OpR X (compareOp op) (rD X.K fun x y => (cop o x y).map .bool) := by
  intro pins s σ H x y v u Q I rx ry h
  obtain ⟨L, m, st, dx, dy, d, k, hx, hy, e, q⟩ := h
  simp only [Option.map_eq_some_iff] at e
  obtain ⟨b, e, rfl⟩ := e
  obtain ⟨i, j, rfl, rfl, rfl⟩ := hc _ _ _ e
  obtain rfl := hx.toInt
  obtain rfl := hy.toInt
  exact ho pins s σ H _ _ v u Q I rx ry ⟨_, _, rfl, rfl, q _ H (.refl _) (.bl _)⟩
theorem cop_lt {x y : PyData} {b : Bool} (h : cop .lt x y = some b) : ∃ i j, x = .int i ∧ y = .int j ∧ b = decide (i < j) := by
  unfold cop at h; split at h <;> simp_all
theorem cop_le {x y : PyData} {b : Bool} (h : cop .le x y = some b) : ∃ i j, x = .int i ∧ y = .int j ∧ b = decide (i ≤ j) := by
  unfold cop at h; split at h <;> simp_all
theorem cop_gt {x y : PyData} {b : Bool} (h : cop .gt x y = some b) : ∃ i j, x = .int i ∧ y = .int j ∧ b = decide (j < i) := by
  unfold cop at h; split at h <;> simp_all
theorem cop_ge {x y : PyData} {b : Bool} (h : cop .ge x y = some b) : ∃ i j, x = .int i ∧ y = .int j ∧ b = decide (j ≤ i) := by
  unfold cop at h; split at h <;> simp_all
theorem inD_cases {x y : PyData} {b : Bool} (h : inD x y = some b) : (∃ ds, y = .list ds ∧ fit x = true ∧ fit y = true ∧ b = ds.any fun z => PyData.eqv z x) ∨ ∃ ds, y = .tuple ds ∧ flatC x = true ∧ ds.all flatC = true ∧ b = ds.any fun z => PyData.eqv z x := by
  unfold inD at h
  split at h
  · split at h
    · rename_i hf
      rw [Bool.and_eq_true] at hf
      cases h
      exact .inl ⟨_, rfl, hf.1, hf.2, rfl⟩
    · cases h
  · split at h
    · rename_i hf
      rw [Bool.and_eq_true] at hf
      cases h
      exact .inr ⟨_, rfl, hf.1, hf.2, rfl⟩
    · cases h
  · cases h
theorem flat_rep {K : PySem.W.Frag} {H : Hp} {L : Ad} {v : V} {d : PyData} (h : Rep K H L v d) (f : flatC d = true) : flatV v = true := by
  cases h <;> first | rfl | (simp [flatC] at f)
theorem flat_eqv {K : PySem.W.Frag} {H : Hp} {L : Ad} {v w : V} {d e : PyData} (h : Rep K H L v d) (g : Rep K H L w e) (f : flatC d = true) (f' : flatC e = true) : eqV v w = PyData.eqv d e := by
  cases h <;> (first | (simp [flatC] at f; done) | skip) <;> cases g <;> (first | (simp [flatC] at f'; done) | skip) <;> simp [eqV, PyData.eqv]
theorem flat_all {K : PySem.W.Frag} {H : Hp} {L : Ad} {w : V} {e : PyData} (g : Rep K H L w e) (f' : flatC e = true) : ∀ {ds : List PyData} {vs : List V}, RepA K H L vs ds → ds.all flatC = true → vs.all flatV = true ∧ inV w vs = ds.any fun z => PyData.eqv z e
  | [], _, h, _ => by cases h; exact ⟨rfl, rfl⟩
  | d :: ds, _, h, f => by
    cases h with
    | cons h1 h2 =>
      rw [List.all_cons, Bool.and_eq_true] at f
      obtain ⟨q1, q2⟩ := flat_all g f' h2 f.2
      refine ⟨by rw [List.all_cons, q1, flat_rep h1 f.1]; rfl, ?_⟩
      unfold inV at q2 ⊢
      rw [List.any_cons, List.any_cons, q2, flat_eqv h1 g f.1 f']
theorem rep_flat {K : PySem.W.Frag} {H : Hp} {L : Ad} {v : V} {d : PyData} (h : RepT K H L v d) (f : flatC d = true) : Rep K H L v d := by
  cases h with
  | val h => exact h
  | lst _ _ _ => simp [flatC] at f
theorem op_inF (hu : X.A.units + 65 < cLine) : OpR X (compareOp .In) (rD X.K fun x y => (cop .isIn x y).map .bool) := by
  intro pins s σ H x y v u Q I rx ry h
  obtain ⟨L, m, st, dx, dy, d, k, hx, hy, e, q⟩ := h
  simp only [cop, Option.map_eq_some_iff] at e
  obtain ⟨b, e, rfl⟩ := e
  rcases inD_cases e with ⟨ds, rfl, f1, f2, rfl⟩ | ⟨ds, rfl, f1, f2, rfl⟩
  · exact op_inD hu pins s σ H x y v u Q I rx ry ⟨dx, ds, hx.dp, hy.dp, fit_shaped f1, fit_shaped f2, q _ H (.refl _) (.bl _)⟩
  · obtain ⟨a, xs, rfl, q1, q2, q3⟩ := hy.toTup
    obtain ⟨z1, z2⟩ := flat_all (rep_flat hx f1) f1 q3 f2
    exact op_in_seq pins s σ H x _ v u Q I rx ry ⟨a, xs, rfl, .inr q1, flat_rep (rep_flat hx f1) f1, z1, by simp only [Bool.false_eq_true, if_false]; rw [z2]; exact q _ H (.refl _) (.bl _)⟩
theorem op_notInF (hu : X.A.units + 65 < cLine) : OpR X (compareOp .NotIn) (rD X.K fun x y => (cop .notIn x y).map .bool) := by
  intro pins s σ H x y v u Q I rx ry h
  obtain ⟨L, m, st, dx, dy, d, k, hx, hy, e, q⟩ := h
  simp only [cop, Option.map_eq_some_iff] at e
  obtain ⟨b, ⟨c, e, rfl⟩, rfl⟩ := e
  rcases inD_cases e with ⟨ds, rfl, f1, f2, rfl⟩ | ⟨ds, rfl, f1, f2, rfl⟩
  · exact op_notInD hu pins s σ H x y v u Q I rx ry ⟨dx, ds, hx.dp, hy.dp, fit_shaped f1, fit_shaped f2, q _ H (.refl _) (.bl _)⟩
  · obtain ⟨a, xs, rfl, q1, q2, q3⟩ := hy.toTup
    obtain ⟨z1, z2⟩ := flat_all (rep_flat hx f1) f1 q3 f2
    exact op_notIn_seq pins s σ H x _ v u Q I rx ry ⟨a, xs, rfl, .inr q1, flat_rep (rep_flat hx f1) f1, z1, by simp only [if_true]; rw [z2]; exact q _ H (.refl _) (.bl _)⟩
def cOp : CmpOp → Option COp
  | .Eq => some .eq
  | .NotEq => some .ne
  | .Lt => some .lt
  | .LtE => some .le
  | .Gt => some .gt
  | .GtE => some .ge
  | .In => some .isIn
  | .NotIn => some .notIn
  | _ => none
theorem op_cmpF (hu : X.A.units + 65 < cLine) {op : CmpOp} {o : COp} (h : cOp op = some o) : OpR X (compareOp op) (rD X.K fun x y => (cop o x y).map .bool) := by
  cases op <;> simp only [cOp, Option.some.injEq, reduceCtorEq] at h <;> subst h
  · exact op_eqF (by omega)
  · exact op_neF (by omega)
  · exact op_ordF op_lt fun _ _ _ => cop_lt
  · exact op_ordF op_le fun _ _ _ => cop_le
  · exact op_ordF op_gt fun _ _ _ => cop_gt
  · exact op_ordF op_ge fun _ _ _ => cop_ge
  · exact op_inF hu
  · exact op_notInF hu
def bOp : Operator → Option BOp
  | .Add => some .add
  | .Sub => some .sub
  | .Mult => some .mul
  | .FloorDiv => some .div
  | .Mod => some .mod
  | .Pow => some .pow
  | _ => none
theorem op_binF {op : Operator} {o : BOp} (h : bOp op = some o) : OpR X (binaryOp op) (rD X.K (bop o)) := by
  cases op <;> simp only [bOp, Option.some.injEq, reduceCtorEq] at h <;> subst h
  · exact op_addD
  · exact op_subD
  all_goals first | exact op_mulD | exact op_divD | exact op_modD | exact op_powD
end
end Sk

/-! SkW: dicts of the text whose keys are tuples of ints -/
namespace Sk
open PySem PySem.Spec PyProof.Rows L2

abbrev tkI (P : Program) (w : World) := tupleKind (intKind P w)
theorem ent_tk {P : Program} {w : World} (x : List Int × Addr × Value) : entryOfKey (tkI P w) x = entI x := rfl
def KeysAt (K : PySem.W.Frag) (H : Hp) (xs : List (List Int × Addr × Value)) : Prop := ∀ x ∈ xs, SqT K H x.2.1 (x.1.map V.int)
theorem items_int {P : Program} {w : World} : ∀ {ks : List Int} {us : List Value}, Vals (ks.map V.int) us → ItemsAre (intKind P w) ks us
  | [], _, r => by rw [List.map_nil] at r; cases r; exact .nil
  | k :: ks, u :: us, r => by
    rw [List.map_cons] at r
    cases r with
    | cons h t =>
      obtain ⟨tk, rfl⟩ := (show ∃ t, u = Value.int k t from h)
      exact .cons (show Value.isInt k (.int k tk) = true by simp [Value.isInt]) (items_int t)
theorem dic_mono {a : Addr} {o : Obj} {xs : List (List Int × Addr × Value)} (h1 h2 : Heap) (h : DicH a o xs h1) (k : ∀ o, h1.get? a = some o → h2.get? a = some o) : DicH a o xs h2 := ⟨k _ h.1, h.2⟩
section
variable {X : Cx} {pins : List (Addr × Obj)} {σ : Slots} {H : Hp} {s : Shared}
theorem key_isI {a : Addr} {ks : List Int} (I : Inv X pins σ H s) (h : SqT X.K H a (ks.map V.int)) : (tkI X.prog X.w).is s.heap ks a := by
  obtain ⟨its, rv, ht, hz⟩ := I.tuple h
  obtain ⟨o, h1, h2, n, h3⟩ := ht
  exact ⟨o, _, n, h1, h2, h3, items_int (by simpa using rv)⟩
theorem dic_at {a : Addr} {o : Obj} {xs : List (List Int × Addr × Value)} (I : Inv X pins σ H s) (e : H a = some (.ext (DicH a o xs))) : DicH a o xs s.heap :=
  (show DicH a o xs s.heap ∧ _ from I.hok a _ e).1
theorem dic_of {a : Addr} {o : Obj} {xs : List (List Int × Addr × Value)} (I : Inv X pins σ H s) (e : H a = some (.ext (DicH a o xs))) (hk : KeysAt X.K H xs) : s.heap.DictOfH (tkI X.prog X.w) a xs := by
  obtain ⟨h1, h2, h3, es, ep, h4, h5⟩ := dic_at I e
  exact ⟨o, es, ep, h1, h2, h4, h5, fun x hx => key_isI I (hk x hx), h3⟩
/-- d[k], there -/
def rIxD (K : PySem.W.Frag) : R2 := fun x y H Q => ∃ a b o ks xs p v, x = .ref a ∧ y = .ref b ∧ SqT K H b (ks.map V.int) ∧ H a = some (.ext (DicH a o xs)) ∧ KeysAt K H xs ∧ atKey xs ks = some p ∧ RelV v p.2 ∧ Q v H
theorem ix_dic (hu : X.A.units + 1 < cLine) : IxR X (rIxD X.K) := by
  intro value slice pins s σ H x y v u Q I rx ry h hs
  obtain ⟨a, b, o, ks, xs, p, z, rfl, rfl, hb, ha, hk, hp, rz, q⟩ := h
  cases rx
  cases ry
  have dd := dic_of I ha hk
  have hT := dd.typeIs
  unfold subscriptTail
  refine wpAny_bind ?_
  rw [getitemInPython_of_ne hT.not_modules]
  refine wpAny_bind (wpAny_specialOf hT PySem.F.slot_dict_getitem.lookup ?_)
  have step : wpAny (model X.prog X.w) X.A (subscripted slice false (.ref a) (.ref b)) (fun r s3 => wpAny (model X.prog X.w) X.A (letTemporaryGo value (.ref a) r >>= fun _ => pure r) (EP X pins σ Q) X.xe s3) X.xe s := by
    rw [hs]
    exact wpAny_operating (wpAny_getItem_heap (tupleKind_room_in1 hu) (key_isI I hb) dd hp (wpAny_bind (wpAny_letTemporaryGo (wpAny_pure ⟨z, H, I.tok _, rz, q⟩))))
  first
    | exact wpAny_pure (wpAny_bind step)
    | exact wpAny_bind (wpAny_pure (wpAny_bind step))
    | exact wpAny_bind step
/-- d[k] = v -/
def rSetD (K : PySem.W.Frag) : V → V → V → Hp → (Hp → Prop) → Prop := fun x y v H Q => ∃ a b o ks xs, x = .ref a ∧ y = .ref b ∧ SqT K H b (ks.map V.int) ∧ H a = some (.ext (DicH a o xs)) ∧ KeysAt K H xs ∧ (a == sysModules) = false ∧ xs.length ≤ sizeLine ∧
  ∀ o' u, RelV v u → Q (upd H a (.ext (DicH a o' (storedH xs ks b u))))
theorem set_dic (hu : X.A.units + 1 < cLine) : PSet X (rSetD X.K) := by
  intro pins s σ H x y v ov iv u Q I rx ry rv h
  obtain ⟨a, b, o, ks, xs, rfl, rfl, hb, ha, hk, hm, hl, q⟩ := h
  cases rx
  cases ry
  refine wpAny_setItem_heap (hsz := hl) (tupleKind_room_in1 hu) (key_isI I hb) (dic_of I ha hk) fun h' dd' sb => ?_
  obtain ⟨o', es, ep, g1, g2, g3, g4, g5, g6⟩ := dd'
  refine ⟨_, ?_, q o' u rv⟩
  refine I.write (x := a) (e := a) (by rw [ha]; trivial) (.inl rfl) (fun c ob hc e => (sb.2 c hc).trans e) ⟨o', g1⟩ ?_
  exact ⟨⟨g1, g2, g6, es, ep, g3, g4⟩, ⟨o', g1⟩, dic_mono⟩
theorem PSet.or {t t' : V → V → V → Hp → (Hp → Prop) → Prop} (h : PSet X t) (h' : PSet X t') : PSet X (fun x y v H Q => t x y v H Q ∨ t' x y v H Q) := by
  intro pins s σ H x y v ov iv u Q I rx ry rv q
  rcases q with q | q
  · exact h pins s σ H x y v ov iv u Q I rx ry rv q
  · exact h' pins s σ H x y v ov iv u Q I rx ry rv q
end
/-- {} -/
def tDNewE : TE := fun _ H Q => ∀ p o, H p = none → (p == sysModules) = false → Q (.ref p) (upd H p (.ext (DicH p o [])))
theorem pe_dnewE {X : Cx} {pos : Pos} : PE X (.Dict [] [] pos) tDNewE := by
  refine ⟨fun pins s σ H Q I h => wpAny_Dict_empty ?_⟩
  have hb : sysModules < s.heap.objs.size := I.big
  refine ⟨.ref s.heap.objs.size, _, I.laid (a := s.heap.objs.size) (o := .ext (DicH s.heap.objs.size { cls := .type "dict", data := .dict #[] } [])) (t' := s.toks) (fun _ _ q => Heap.get?_push_of_some _ q) (Nat.le_refl _) ?_, rfl, h _ _ (I.hok.fresh (Nat.le_refl _)) (beq_eq_false_iff_ne.mpr (Ne.symm (Nat.ne_of_lt hb)))⟩
  have g : (s.heap.push { cls := .type "dict", data := .dict #[] }).get? s.heap.objs.size = some { cls := .type "dict", data := .dict #[] } := Heap.get?_push_size _ rfl
  exact ⟨⟨g, ⟨rfl, rfl, rfl⟩, List.nodup_nil, #[], 0, rfl, rfl⟩, ⟨_, g⟩, dic_mono⟩

/-! ### for k in d -/
def ItD (K : PySem.W.Frag) (d : Addr) (o : Obj) (xs : List (List Int × Addr × Value)) : It :=
  ⟨fun i H => H d = some (.ext (DicH d o xs)) ∧ i < xs.length, fun i H x H' => H' = H ∧ ∃ y, xs[i]? = some y ∧ x = .ref y.2.1, fun i H => H d = some (.ext (DicH d o xs)) ∧ xs.length ≤ i⟩
theorem turn_dic {P : Program} {w : World} {K : PySem.W.Frag} {tg : Expr} {d : Addr} {o : Obj} {es : Array DictEntry} {ep : Nat} {xs : List (List Int × Addr × Value)} (it : Addr) (hod : o.data = .dict es ep) (hes : es.toList = xs.map entI) :
    Turn P w K tg (ItD K d o xs) [it] it (fun i h => h.IsKeyIter it d i xs.length ep) where
  mem := by simp
  obj := fun i h q b hb => by
    obtain rfl : b = it := by simpa using hb
    obtain ⟨oi, e, c, dd⟩ := q
    exact ⟨oi, e, fun v z => by rw [dd] at z; cases z⟩
  keep := fun i h h' q k => q.at fun oi e => k it (by simp) oi e
  item := by
    intro X hP hw hK hc i pins s σ H E I hf q hg
    subst hP hw hK
    obtain ⟨hd, hi⟩ := hg
    obtain ⟨f0, f1, f2, f3, f4, f5⟩ := hf it (by simp)
    obtain ⟨h1, h2, h3, es', ep', h4, h5⟩ := dic_at I hd
    rw [hod] at h4
    cases h4
    have hsz : es.size = xs.length := by
      have := congrArg List.length hes
      simpa using this
    have hen : es[i]? = some (entI xs[i]) := by
      rw [← Array.getElem?_toList, hes, List.getElem?_map, List.getElem?_eq_getElem hi]
      rfl
    refine next_key_item q h1 hod hsz hen fun h' q' sb => ?_
    have I1 : Inv X pins σ H { s with heap := h' } := I.turned (t' := s.toks) (fun b ob hb e => (sb.2 b hb).trans e) f0 f1 f3 f4 f5
    obtain ⟨oi, e, c, dd⟩ := id q'
    exact ⟨_, rfl, go_of (s := { s with heap := h' }) e c dd (by decide) ⟨.ref (xs[i]).2.1, H, I1, rfl, ⟨rfl, _, List.getElem?_eq_getElem hi, rfl⟩, q', fun b hb => (hf b hb).1⟩⟩
  done := by
    intro X hP hw hK hc i pins s σ H E I hf q hg
    subst hP hw hK
    obtain ⟨hd, hi⟩ := hg
    obtain ⟨f0, f1, f2, f3, f4, f5⟩ := hf it (by simp)
    obtain ⟨h1, h2, h3, es', ep', h4, h5⟩ := dic_at I hd
    rw [hod] at h4
    cases h4
    have hsz : es.size = xs.length := by
      have := congrArg List.length hes
      simpa using this
    exact next_key_end (I.ok.hd hc) q h1 hod hsz hi fun h' eb => ⟨rfl, I.turned (t' := s.toks) (fun b ob hb e => eb b ob hb e) f0 f1 f3 f4 f5⟩
  self := fun A i s Q E q h => by
    refine wpAny_pyIter_slot q.typeIs F.slot_dict_keyiterator_iter (wpAny_call_entry F.slot_dict_keyiterator_iter q.typeIs F.entry_dict_keyiterator_iter ?_ (F.args_dict_keyiterator_iter_1 _))
    show wpAny _ _ (ret (.ref it)) _ _ s
    exact wpAny_pure ⟨_, rfl, "dict_keyiterator", _, q.typeIs, F.slot_dict_keyiterator_next.lookup, h⟩
def iDic (K : PySem.W.Frag) (td : TE) : TI := fun σ H R => td σ H fun x H1 => ∃ d o xs, x = .ref d ∧ H1 d = some (.ext (DicH d o xs)) ∧ (d == sysModules) = false ∧ R (ItD K d o xs) H1
theorem pi_dic {X : Cx} {tg e : Expr} {td : TE} (he : PE X e td) : PI X tg e (iDic X.K td) := by
  refine ⟨fun pins s σ H R I h => ?_⟩
  refine thn (he.run pins s σ H _ I h) fun u s1 ⟨x, H1, I1, rx, d, o, xs, ex, hd, hs, q⟩ => ?_
  subst ex
  obtain rfl : u = Value.ref d := rx
  obtain ⟨h1, h2, h3, es, ep, h4, h5⟩ := dic_at I1 hd
  have hsz : es.size = xs.length := by
    have := congrArg List.length h5
    simpa using this
  refine iter_keys hs h1 h2 h4 (pi_one (tk := s1.toks) I1 _ (turn_dic _ h4 h5) ⟨_, Heap.get?_push_size _ rfl, rfl, ?_⟩ q)
  rw [hsz] <;> rfl
end Sk

/-! Sk4: the soundness of expressions -/
namespace Sk
open PySem PySem.Spec PyProof.Rows L2

/-- data as it is read, the script too -/
inductive RepR (K : PySem.W.Frag) (H : Hp) (L : Ad) : V → PyData → Prop
  | val {v : V} {d : PyData} : RepT K H L v d → RepR K H L v d
  | scr {a : Addr} {ns : List Int} : Fzn K H L a (ns.map V.int) → ns.length ≤ sizeLine → RepR K H L (.ref a) (.list (ns.map .int))
abbrev RepRs (K : PySem.W.Frag) (H : Hp) (L : Ad) : List V → List PyData → Prop := Paired (RepR K H L)
section
variable {K : PySem.W.Frag} {H H1 H' : Hp} {L L1 : Ad} {m m1 : List Addr} {st st' : Mem} {v : V} {w : W} {d : PyData}
theorem repA_ints : ∀ ns : List Int, RepA K H L (ns.map V.int) (ns.map PyData.int)
  | [] => .nil
  | n :: ns => .cons (.int n) (repA_ints ns)
theorem repA_of : ∀ {ps : List V} {ds : List PyData}, ps.length = ds.length → (∀ (j : Nat) (p : V), ps[j]? = some p → ∃ d, ds[j]? = some d ∧ Rep K H L p d) → RepA K H L ps ds
  | [], [], _, _ => .nil
  | [], _ :: _, h, _ => by cases h
  | _ :: _, [], h, _ => by cases h
  | p :: ps, d :: ds, h, g => by
    obtain ⟨d', e, r⟩ := g 0 p (by simp)
    simp at e
    subst e
    exact .cons r (repA_of (by simpa using h) fun j q e => by simpa using g (j + 1) q (by simpa using e))
theorem repA_intsV : ∀ {ns : List Int} {vs : List V}, RepA K H L vs (ns.map PyData.int) → vs = ns.map V.int
  | [], _, h => by cases h; rfl
  | n :: ns, _, h => by
    cases h with
    | cons h1 h2 =>
      cases h1
      rw [List.map_cons, repA_intsV h2]
theorem intsD_mapI : ∀ ns : List Int, intsD (ns.map .int) = some ns
  | [] => rfl
  | n :: ns => by simp [intsD, intsD_mapI ns]
theorem intsD_of : ∀ {ds : List PyData} {ns : List Int}, intsD ds = some ns → ds = ns.map .int
  | [], _, h => by cases h; rfl
  | d :: ds, _, h => by
    cases d with
    | int i =>
      simp only [intsD, Option.map_eq_some_iff] at h
      obtain ⟨ns, h1, rfl⟩ := h
      rw [intsD_of h1]
      rfl
    | _ => simp [intsD] at h
theorem keyI_of {d : PyData} {ks : List Int} (h : keyI d = some ks) : d = .tuple (ks.map .int) := by
  cases d with
  | tuple ds => rw [intsD_of (ds := ds) h]
  | _ => cases h
theorem RepR.keyT {ks : List Int} (h : RepR K H L v (.tuple (ks.map .int))) : ∃ b, v = .ref b ∧ SqT K H b (ks.map V.int) := by
  cases h with
  | val h =>
    obtain ⟨a, vs, e, g1, g2, g3⟩ := h.toTup
    rw [repA_intsV g3] at g1
    exact ⟨a, e, g1⟩
theorem RepW.lookR (h : RepW K H L m v w) (s : StOk K H L m st) (e : look st w = some d) : RepR K H L v d := by
  cases h with
  | val h => cases e; exact .val (.val h)
  | scr h l => cases e; exact .scr h l
  | loc h g => exact .val ((RepW.loc h g).lk s e)
  | pk _ _ _ _ _ _ => cases e
  | dic _ _ => cases e
theorem looks_ok (s : StOk K H L m st) : ∀ {vs : List V} {ws : List W} {ds : List PyData}, RepWs K H L m vs ws → looks st ws = some ds → RepRs K H L vs ds
  | _, _, _, .nil, e => by cases e; exact .nil
  | _, _, _, .cons r t, e => by
    simp only [looks, Option.bind_eq_some_iff] at e
    obtain ⟨d, e1, ds, e2, e3⟩ := e
    cases e3
    exact .cons (r.lookR s e1) (looks_ok s t e2)
theorem RepR.toInt {i : Int} (h : RepR K H L v (.int i)) : v = .int i := by cases h with | val h => exact h.toInt
theorem RepR.toBool {i : Bool} (h : RepR K H L v (.bool i)) : v = .bl i := by cases h with | val h => cases h with | val h => cases h; rfl
theorem RepR.toStr {i : Str} (h : RepR K H L v (.str i)) : v = .str i := by cases h with | val h => exact h.toStr
theorem RepR.toTup {ds : List PyData} (h : RepR K H L v (.tuple ds)) : ∃ a xs, v = .ref a ∧ SqT K H a xs ∧ xs.length ≤ sizeLine ∧ RepA K H L xs ds := by cases h with | val h => exact h.toTup
theorem RepR.toLst {ds : List PyData} (h : RepR K H L v (.list ds)) : ∃ a xs, v = .ref a ∧ SqL K H a xs ∧ xs.length ≤ sizeLine ∧ RepA K H L xs ds := by
  cases h with
  | val h =>
    obtain ⟨a, xs, e, h1, h2, h3⟩ := h.toList
    exact ⟨a, xs, e, .of h1, h2, h3⟩
  | scr h l => exact ⟨_, _, rfl, h.sq, by rw [List.length_map]; exact l, repA_ints _⟩
theorem dpA_ints : ∀ ns : List Int, DpAll K H (ns.map V.int) (ns.map PyData.int)
  | [] => .nil
  | n :: ns => .cons (.int n) (dpA_ints ns)
theorem RepR.dp (h : RepR K H L v d) : Dp K H v d := by
  cases h with
  | val h => exact h.dp
  | scr h l => exact .lst h.sq (dpA_ints _)
theorem seqOf_ok (h : RepW K H L m v w) (s : StOk K H L m st) {ds : List PyData} (e : seqOf st w = some ds) : ∃ p ys, v = .ref p ∧ (SqL K H p ys ∨ SqT K H p ys) ∧ ys.length ≤ sizeLine ∧ RepA K H L ys ds := by
  unfold seqOf at e
  split at e
  · rename_i h'
    cases e
    obtain ⟨a, xs, e1, e2, e3, e4⟩ := (h.lookR s h').toLst
    exact ⟨a, xs, e1, .inl e2, e3, e4⟩
  · rename_i h'
    cases e
    obtain ⟨a, xs, e1, e2, e3, e4⟩ := (h.lookR s h').toTup
    exact ⟨a, xs, e1, .inr e2, e3, e4⟩
  · cases e

/-- a list is let go for good: data from now on -/
theorem frz_ok (s : StOk K H L m st) (h : RepW K H L m v w) (e : frz st w = some (d, st')) : ∃ L', StOk K H L' m st' ∧ Rep K H L' v d ∧ Ext H L m H L' m := by
  cases h with
  | val h => cases e; exact ⟨L, s, h, .refl⟩
  | scr h => cases e
  | pk _ _ _ _ _ _ => cases e
  | dic _ _ => cases e
  | @loc a n h hg =>
    simp only [frz, Option.map_eq_some_iff] at e
    obtain ⟨c, e1, e2⟩ := e
    cases e2
    have ca := s.cellL n c a e1 h hg
    have am : a ∈ m := List.mem_of_getElem? h
    have kp : ∀ b o, H b = some o → ¬ L b → H b = some o ∧ ¬ (L b ∧ b ≠ a) := fun b o q z => ⟨q, fun y => z y.1⟩
    refine ⟨fun b => L b ∧ b ≠ a, ⟨by rw [List.length_set]; exact s.len, s.nd, fun b l => s.trk b l.1, fun k c' b g1 g2 => ?_⟩, ?_, ⟨kp, fun b l hb _ => ⟨⟨l, fun z => hb (z ▸ am)⟩, rfl⟩, ⟨[], by simp, by simp⟩, fun _ o z => ⟨o, z, rfl⟩⟩⟩
    · by_cases hk : n = k
      · subst hk
        have hl : n < st.length := (List.getElem?_eq_some_iff.mp e1).1
        rw [List.getElem?_set_self hl] at g1
        cases g1
        rw [h] at g2
        cases g2
        obtain ⟨vs, q1, q2, q3, _, _⟩ := ca
        exact .inl ⟨vs, q1, q2, RepA.mono kp _ _ q3, fun z => (Bool.false_ne_true z).elim, fun _ z => z.2 rfl⟩
      · rw [List.getElem?_set_ne hk] at g1
        have hne : b ≠ a := fun z => hk ((List.getElem?_inj (List.getElem?_eq_some_iff.mp h).1 s.nd).mp (by rw [h, g2, z]))
        exact (s.cell k c' b g1 g2).mono kp rfl (fun z => ⟨z, hne⟩) (fun z y => z y.1)
    · obtain ⟨vs, q1, q2, q3, _, _⟩ := ca
      exact .lst q1 (fun z => z.2 rfl) q2 (RepA.mono kp _ _ q3)
theorem frzs_ok : ∀ {vs : List V} {ws : List W} {ds : List PyData} {L : Ad} {st st' : Mem}, StOk K H L m st → RepWs K H L m vs ws → frzs st ws = some (ds, st') → ∃ L', StOk K H L' m st' ∧ RepA K H L' vs ds ∧ Ext H L m H L' m
  | _, _, _, L, _, _, s, .nil, e => by cases e; exact ⟨L, s, .nil, .refl⟩
  | _, _, _, L, _, _, s, .cons r t, e => by
    simp only [frzs, Option.bind_eq_some_iff, Prod.exists] at e
    obtain ⟨d, s1, e1, ds, s2, e2, e3⟩ := e
    cases e3
    obtain ⟨L1, k1, r1, x1⟩ := frz_ok s r e1
    obtain ⟨Lb, k2, r2, x2⟩ := frzs_ok k1 (RepWs.mono x1 t) e2
    exact ⟨Lb, k2, .cons (Rep.mono x2.keep _ _ r1) r2, x1.trans x2⟩
theorem none_iff (h : RepW K H L m v w) : decide (v = .non) = isNn w := by
  cases h with
  | val h => cases h <;> rfl
  | scr h => rfl
  | loc h => rfl
  | pk _ _ _ _ _ _ => rfl
  | dic _ _ => rfl
/-- what a dict's cell holds, looked up -/
theorem dic_find : ∀ {xs : List (List Int × Addr × Value)} {kvs : List PyData} {ks : List Int} {d : PyData}, Paired (DEnt K H L) xs kvs → dget kvs ks = some d → ∃ p v, atKey xs ks = some p ∧ RelV v p.2 ∧ Rep K H L v d
  | [], _, ks, d, h, e => by cases h; cases e
  | x :: xs, _, ks, d, h, e => by
    cases h with
    | @cons _ p _ kvs hx ht =>
      obtain ⟨v, dv, rfl, q2, q3, q4⟩ := hx
      have ek : pairI (.tuple [.tuple (x.1.map .int), dv]) = some (x.1, dv) := by simp [pairI, keyI, intsD_mapI]
      unfold dget at e
      rw [List.findSome?_cons] at e
      by_cases hk : x.1 = ks
      · have e1 : dgetP ks (.tuple [.tuple (x.1.map .int), dv]) = some dv := by simp only [dgetP, ek, Option.bind_some]; rw [if_pos hk]
        rw [e1] at e
        cases e
        refine ⟨x.2, v, ?_, q3, q4⟩
        simp [atKey, hk]
      · have e1 : dgetP ks (.tuple [.tuple (x.1.map .int), dv]) = none := by simp only [dgetP, ek, Option.bind_some]; rw [if_neg hk]
        rw [e1] at e
        obtain ⟨p, v', h1, h2, h3⟩ := dic_find ht e
        refine ⟨p, v', ?_, h2, h3⟩
        unfold atKey at h1 ⊢
        rw [List.find?_cons]
        simpa [hk] using h1
theorem dic_keys : ∀ {xs : List (List Int × Addr × Value)} {kvs : List PyData}, Paired (DEnt K H L) xs kvs → KeysAt K H xs
  | [], _, _ => fun x hx => by cases hx
  | x :: xs, _, h => by
    cases h with
    | cons hx ht =>
      obtain ⟨v, dv, rfl, q2, q3, q4⟩ := hx
      intro y hy
      rcases List.mem_cons.mp hy with rfl | hy
      · obtain ⟨a, vs, e, g1, g2, g3⟩ := (RepT.val q2).toTup
        cases e
        rw [repA_intsV g3] at g1
        exact g1
      · exact dic_keys ht y hy
end

section
variable {X : Cx} {C : CallF} {pos : Pos} {a b c e : Expr} {ia ib ic : Ex} {es : List Expr} {ies : Exs}

theorem s_neg (ha : PE X a (tE X.K C ia)) : PE X (.UnaryOp .USub a pos) (tE X.K C (.neg ia)) :=
  (pe_un un_neg ha).weak fun σ H Q ⟨L, m, r, st, w, st', he, hs, h, q⟩ => by
    simp only [ev, Option.bind_eq_some_iff, Prod.exists] at h
    obtain ⟨x, s1, h1, h2⟩ := h
    refine ⟨L, m, r, st, x, s1, he, hs, h1, fun v1 H1 L1 m1 e1 k1 r1 => ?_⟩
    split at h2
    · cases h2
      cases r1 with | val r1 =>
      cases r1
      exact ⟨_, rfl, q _ H1 L1 m1 e1 k1 (.val (.int _))⟩
    · cases h2
theorem s_isN {j pos'} (ha : PE X a (tE X.K C ia)) : PE X (.Compare a [.Is] [.Constant .none j pos'] pos) (tE X.K C (.isN ia)) ∧ PT X (.Compare a [.Is] [.Constant .none j pos'] pos) (tT X.K C (.isN ia)) := by
  refine ⟨(pe_cmp (pc_isN ha) rfl).weak fun σ H Q ⟨L, m, r, st, w, st', he, hs, h, q⟩ => ?_, (pt_cmp (pc_isN ha) rfl).weak fun σ H Q ⟨L, m, r, st, w, st', he, hs, h, q⟩ => ?_⟩
  · simp only [ev, Option.map_eq_some_iff, Prod.exists] at h
    obtain ⟨x, s1, h1, h2⟩ := h
    cases h2
    refine ⟨L, m, r, st, x, _, he, hs, h1, fun v1 H1 L1 m1 e1 k1 r1 => ?_⟩
    show Q (.bl (decide (v1 = .non))) H1
    rw [none_iff r1]
    exact q _ H1 L1 m1 e1 k1 (.val (.bl _))
  · simp only [ev, Option.map_eq_some_iff, Prod.exists] at h
    obtain ⟨x, s1, h1, h2⟩ := h
    cases h2
    refine ⟨L, m, r, st, x, _, he, hs, h1, fun v1 H1 L1 m1 e1 k1 r1 => ⟨_, rfl, ?_⟩⟩
    rw [none_iff r1]
    exact q H1 L1 m1 e1 k1
/-- is True, is False, of a truth -/
def tIsC (b : Bool) (ta : TE) : TE := fun σ H Q => ta σ H fun x H1 => ∃ c, x = .bl c ∧ Q (.bl (c == b)) H1
theorem pc_isC {ta : TE} {b : Bool} {j pos'} (ha : PE X a ta) : PC X .Is a (.Constant (.bool b) j pos') (tIsC b ta) := by
  refine ⟨fun pins s σ H Q I h => ?_⟩
  refine thn (ha.run pins s σ H _ I h) fun v s1 ⟨x, H1, I1, r1, q1⟩ => ?_
  obtain ⟨c, rfl, q⟩ := q1
  cases r1
  exact PyProof.Rows.Constant_bool (PyProof.Rows.is_bool ⟨.bl _, H1, I1, rfl, q⟩)
theorem s_isC {b : Bool} {j pos'} (ha : PE X a (tE X.K C ia)) : PE X (.Compare a [.Is] [.Constant (.bool b) j pos'] pos) (tE X.K C (.isC b ia)) ∧ PT X (.Compare a [.Is] [.Constant (.bool b) j pos'] pos) (tT X.K C (.isC b ia)) := by
  refine ⟨(pe_cmp (pc_isC ha) rfl).weak fun σ H Q ⟨L, m, r, st, w, st', he, hs, h, q⟩ => ?_, (pt_cmp (pc_isC ha) rfl).weak fun σ H Q ⟨L, m, r, st, w, st', he, hs, h, q⟩ => ?_⟩
  · simp only [ev, Option.bind_eq_some_iff, Prod.exists] at h
    obtain ⟨x, s1, h1, h2⟩ := h
    refine ⟨L, m, r, st, x, s1, he, hs, h1, fun v1 H1 L1 m1 e1 k1 r1 => ?_⟩
    split at h2
    · cases h2
      cases r1 with | val r1 =>
      cases r1
      exact ⟨_, rfl, q _ H1 L1 m1 e1 k1 (.val (.bl _))⟩
    · cases h2
  · simp only [ev, Option.bind_eq_some_iff, Prod.exists] at h
    obtain ⟨x, s1, h1, h2⟩ := h
    refine ⟨L, m, r, st, x, s1, he, hs, h1, fun v1 H1 L1 m1 e1 k1 r1 => ?_⟩
    split at h2
    · cases h2
      cases r1 with | val r1 =>
      cases r1
      exact ⟨_, rfl, _, rfl, q H1 L1 m1 e1 k1⟩
    · cases h2
theorem pc_isD {ta : TE} {b : Bool} {j pos'} (ha : PE X a ta) : PC X .IsNot a (.Constant (.bool b) j pos') (tIsC (!b) ta) := by
  refine ⟨fun pins s σ H Q I h => ?_⟩
  refine thn (ha.run pins s σ H _ I h) fun v s1 ⟨x, H1, I1, r1, q1⟩ => ?_
  obtain ⟨c, rfl, q⟩ := q1
  cases r1
  exact PyProof.Rows.Constant_bool (PyProof.Rows.isnot_bool ⟨.bl _, H1, I1, rfl, by cases c <;> cases b <;> exact q⟩)
theorem s_isD {b : Bool} {j pos'} (ha : PE X a (tE X.K C ia)) : PE X (.Compare a [.IsNot] [.Constant (.bool b) j pos'] pos) (tE X.K C (.isC (!b) ia)) ∧ PT X (.Compare a [.IsNot] [.Constant (.bool b) j pos'] pos) (tT X.K C (.isC (!b) ia)) := by
  refine ⟨(pe_cmp (pc_isD ha) rfl).weak fun σ H Q ⟨L, m, r, st, w, st', he, hs, h, q⟩ => ?_, (pt_cmp (pc_isD ha) rfl).weak fun σ H Q ⟨L, m, r, st, w, st', he, hs, h, q⟩ => ?_⟩
  · simp only [ev, Option.bind_eq_some_iff, Prod.exists] at h
    obtain ⟨x, s1, h1, h2⟩ := h
    refine ⟨L, m, r, st, x, s1, he, hs, h1, fun v1 H1 L1 m1 e1 k1 r1 => ?_⟩
    split at h2
    · cases h2
      cases r1 with | val r1 =>
      cases r1
      exact ⟨_, rfl, q _ H1 L1 m1 e1 k1 (.val (.bl _))⟩
    · cases h2
  · simp only [ev, Option.bind_eq_some_iff, Prod.exists] at h
    obtain ⟨x, s1, h1, h2⟩ := h
    refine ⟨L, m, r, st, x, s1, he, hs, h1, fun v1 H1 L1 m1 e1 k1 r1 => ?_⟩
    split at h2
    · cases h2
      cases r1 with | val r1 =>
      cases r1
      exact ⟨_, rfl, _, rfl, q H1 L1 m1 e1 k1⟩
    · cases h2
theorem s_notN {j pos'} (ha : PE X a (tE X.K C ia)) : PE X (.Compare a [.IsNot] [.Constant .none j pos'] pos) (tE X.K C (.notN ia)) ∧ PT X (.Compare a [.IsNot] [.Constant .none j pos'] pos) (tT X.K C (.notN ia)) := by
  refine ⟨(pe_cmp (pc_notN ha) rfl).weak fun σ H Q ⟨L, m, r, st, w, st', he, hs, h, q⟩ => ?_, (pt_cmp (pc_notN ha) rfl).weak fun σ H Q ⟨L, m, r, st, w, st', he, hs, h, q⟩ => ?_⟩
  · simp only [ev, Option.map_eq_some_iff, Prod.exists] at h
    obtain ⟨x, s1, h1, h2⟩ := h
    cases h2
    refine ⟨L, m, r, st, x, _, he, hs, h1, fun v1 H1 L1 m1 e1 k1 r1 => ?_⟩
    show Q (.bl (!decide (v1 = .non))) H1
    rw [none_iff r1]
    exact q _ H1 L1 m1 e1 k1 (.val (.bl _))
  · simp only [ev, Option.map_eq_some_iff, Prod.exists] at h
    obtain ⟨x, s1, h1, h2⟩ := h
    cases h2
    refine ⟨L, m, r, st, x, _, he, hs, h1, fun v1 H1 L1 m1 e1 k1 r1 => ⟨_, rfl, ?_⟩⟩
    rw [none_iff r1]
    exact q H1 L1 m1 e1 k1
theorem s_not (ha : PE X a (tE X.K C ia)) : PE X (.UnaryOp .Not a pos) (tE X.K C (.not1 ia)) :=
  (pe_not ha).weak fun σ H Q ⟨L, m, r, st, w, st', he, hs, h, q⟩ => by
    simp only [ev, Option.bind_eq_some_iff, Prod.exists] at h
    obtain ⟨x, s1, h1, h2⟩ := h
    refine ⟨L, m, r, st, x, s1, he, hs, h1, fun v1 H1 L1 m1 e1 k1 r1 => ?_⟩
    split at h2
    · cases h2
      cases r1 with | val r1 =>
      cases r1
      exact ⟨_, rfl, q _ H1 L1 m1 e1 k1 (.val (.bl _))⟩
    · cases h2
theorem t_not (ha : PT X a (tT X.K C ia)) : PT X (.UnaryOp .Not a pos) (tT X.K C (.not1 ia)) :=
  (pt_not ha).weak fun σ H Q ⟨L, m, r, st, w, st', he, hs, h, q⟩ => by
    simp only [ev, Option.bind_eq_some_iff, Prod.exists] at h
    obtain ⟨x, s1, h1, h2⟩ := h
    split at h2
    · cases h2
      exact ⟨L, m, r, st, _, _, he, hs, h1, fun H1 L1 m1 e1 k1 => q H1 L1 m1 e1 k1⟩
    · cases h2
theorem s_ife (hc : PT X c (tT X.K C ic)) (ha : PE X a (tE X.K C ia)) (hb : PE X b (tE X.K C ib)) : PE X (.IfExp c a b pos) (tE X.K C (.ife ic ia ib)) :=
  (pe_ifExp hc ha hb).weak fun σ H Q ⟨L, m, r, st, w, st', he, hs, h, q⟩ => by
    simp only [ev, Option.bind_eq_some_iff, Prod.exists] at h
    obtain ⟨x, s1, h1, h2⟩ := h
    split at h2
    · refine ⟨L, m, r, st, true, s1, he, hs, h1, fun H1 L1 m1 e1 k1 => ?_⟩
      refine iteT ?_
      exact ⟨L1, m1, r, s1, w, st', he.mono e1, k1, h2, fun v2 H2 Lb m2 e2 k2 r2 => q v2 H2 Lb m2 (e1.trans e2) k2 r2⟩
    · refine ⟨L, m, r, st, false, s1, he, hs, h1, fun H1 L1 m1 e1 k1 => ?_⟩
      refine iteF ?_
      exact ⟨L1, m1, r, s1, w, st', he.mono e1, k1, h2, fun v2 H2 Lb m2 e2 k2 r2 => q v2 H2 Lb m2 (e1.trans e2) k2 r2⟩
    · cases h2
theorem s_one {op} (ha : PE X a (tE X.K C ia)) : PE X (.BoolOp op [a] pos) (tE X.K C ia) := pe_one ha
theorem s_and {rest : List Expr} (ha : PE X a (tE X.K C ia)) (hb : PE X (.BoolOp .And (b :: rest) pos) (tE X.K C ib)) : PE X (.BoolOp .And (a :: b :: rest) pos) (tE X.K C (.and2 ia ib)) :=
  (pe_and ha hb).weak fun σ H Q ⟨L, m, r, st, w, st', he, hs, h, q⟩ => by
    simp only [ev, Option.bind_eq_some_iff, Prod.exists] at h
    obtain ⟨x, s1, h1, h2⟩ := h
    refine ⟨L, m, r, st, x, s1, he, hs, h1, fun v1 H1 L1 m1 e1 k1 r1 => ?_⟩
    split at h2
    · cases r1 with | val r1 =>
      cases r1
      refine ⟨true, rfl, ?_⟩
      refine iteT ?_
      exact ⟨L1, m1, r, s1, w, st', he.mono e1, k1, h2, fun v2 H2 Lb m2 e2 k2 r2 => q v2 H2 Lb m2 (e1.trans e2) k2 r2⟩
    · cases r1 with | val r1 =>
      cases r1
      cases h2
      refine ⟨false, rfl, ?_⟩
      refine iteF ?_
      exact q _ H1 L1 m1 e1 k1 (.val (.bl _))
    · cases h2
theorem s_or {rest : List Expr} (ha : PE X a (tE X.K C ia)) (hb : PE X (.BoolOp .Or (b :: rest) pos) (tE X.K C ib)) : PE X (.BoolOp .Or (a :: b :: rest) pos) (tE X.K C (.or2 ia ib)) :=
  (pe_or ha hb).weak fun σ H Q ⟨L, m, r, st, w, st', he, hs, h, q⟩ => by
    simp only [ev, Option.bind_eq_some_iff, Prod.exists] at h
    obtain ⟨x, s1, h1, h2⟩ := h
    refine ⟨L, m, r, st, x, s1, he, hs, h1, fun v1 H1 L1 m1 e1 k1 r1 => ?_⟩
    split at h2
    · cases r1 with | val r1 =>
      cases r1
      cases h2
      refine ⟨true, rfl, ?_⟩
      refine iteT ?_
      exact q _ H1 L1 m1 e1 k1 (.val (.bl _))
    · cases r1 with | val r1 =>
      cases r1
      refine ⟨false, rfl, ?_⟩
      refine iteF ?_
      exact ⟨L1, m1, r, s1, w, st', he.mono e1, k1, h2, fun v2 H2 Lb m2 e2 k2 r2 => q v2 H2 Lb m2 (e1.trans e2) k2 r2⟩
    · cases h2
theorem s_orV {rest : List Expr} (ha : PE X a (tE X.K C ia)) (hb : PE X (.BoolOp .Or (b :: rest) pos) (tE X.K C ib)) : PE X (.BoolOp .Or (a :: b :: rest) pos) (tE X.K C (.orV ia ib)) :=
  (pe_orT ha hb).weak fun σ H Q ⟨L, m, r, st, w, st', he, hs, h, q⟩ => by
    simp only [ev, Option.bind_eq_some_iff, Prod.exists] at h
    obtain ⟨x, s1, h1, h2⟩ := h
    refine ⟨L, m, r, st, x, s1, he, hs, h1, fun v1 H1 L1 m1 e1 k1 r1 => ?_⟩
    split at h2
    · cases r1 with | val r1 =>
      cases r1
      refine ⟨false, rfl, ?_⟩
      refine iteF ?_
      exact ⟨L1, m1, r, s1, w, st', he.mono e1, k1, h2, fun v2 H2 Lb m2 e2 k2 r2 => q v2 H2 Lb m2 (e1.trans e2) k2 r2⟩
    · rename_i d ds
      cases h2
      have r0 := r1
      cases r1 with | val r1 =>
      cases r1 with | tup g1 g2 g3 =>
      rename_i p xs
      have hne : xs.isEmpty = false := by cases g3; rfl
      refine ⟨true, .inr (.inl ⟨xs, ?_, by rw [hne]; rfl⟩), ?_⟩
      · rcases g1 with ⟨z, n⟩ | z
        · exact .inl (.inl z)
        · exact .inr z
      · refine iteT ?_
        exact q _ H1 L1 m1 e1 k1 r0
    · cases h2
theorem t_and {rest : List Expr} (ha : PT X a (tT X.K C ia)) (hb : PW X (.BoolOp .And (b :: rest) pos) (tT X.K C ib)) : PW X (.BoolOp .And (a :: b :: rest) pos) (tT X.K C (.and2 ia ib)) :=
  (pw_and ha hb).weak fun σ H Q ⟨L, m, r, st, w, st', he, hs, h, q⟩ => by
    simp only [ev, Option.bind_eq_some_iff, Prod.exists] at h
    obtain ⟨x, s1, h1, h2⟩ := h
    split at h2
    · refine ⟨L, m, r, st, true, s1, he, hs, h1, fun H1 L1 m1 e1 k1 => ?_⟩
      refine iteT ?_
      exact ⟨L1, m1, r, s1, w, st', he.mono e1, k1, h2, fun H2 Lb m2 e2 k2 => q H2 Lb m2 (e1.trans e2) k2⟩
    · cases h2
      refine ⟨L, m, r, st, false, _, he, hs, h1, fun H1 L1 m1 e1 k1 => ?_⟩
      refine iteF ?_
      exact q H1 L1 m1 e1 k1
    · cases h2
theorem t_or {rest : List Expr} (ha : PT X a (tT X.K C ia)) (hb : PW X (.BoolOp .Or (b :: rest) pos) (tT X.K C ib)) : PW X (.BoolOp .Or (a :: b :: rest) pos) (tT X.K C (.or2 ia ib)) :=
  (pw_or ha hb).weak fun σ H Q ⟨L, m, r, st, w, st', he, hs, h, q⟩ => by
    simp only [ev, Option.bind_eq_some_iff, Prod.exists] at h
    obtain ⟨x, s1, h1, h2⟩ := h
    split at h2
    · cases h2
      refine ⟨L, m, r, st, true, _, he, hs, h1, fun H1 L1 m1 e1 k1 => ?_⟩
      refine iteT ?_
      exact q H1 L1 m1 e1 k1
    · refine ⟨L, m, r, st, false, s1, he, hs, h1, fun H1 L1 m1 e1 k1 => ?_⟩
      refine iteF ?_
      exact ⟨L1, m1, r, s1, w, st', he.mono e1, k1, h2, fun H2 Lb m2 e2 k2 => q H2 Lb m2 (e1.trans e2) k2⟩
    · cases h2
theorem t_val (ha : PE X a (tE X.K C ia)) (he : ∀ whole, isTrue a X.env whole = (do let v ← whole; standAt a.pos; holding [v] (truthy v))) : PT X a (tT X.K C ia) :=
  (pt_val ha he).weak fun σ H Q ⟨L, m, r, st, w, st', he, hs, h, q⟩ =>
    ⟨L, m, r, st, _, st', he, hs, h, fun v1 H1 L1 m1 e1 k1 r1 => by
      cases r1 with | val r1 =>
      cases r1
      exact ⟨_, rfl, q H1 L1 m1 e1 k1⟩⟩
theorem chain_read {K : PySem.W.Frag} {o o' : COp} {σ : Slots} {H : Hp} {Q : VK} (h0 : tE K C (.chain o o' ia ib ic) σ H Q) :
    tChain (rD K fun x y => (cop o x y).map .bool) (rD K fun x y => (cop o' x y).map .bool) (tE K C ia) (tE K C ib) (tE K C ic) σ H Q := by
  obtain ⟨L, m, r, st, w, st', he, hs, h, q⟩ := h0
  simp only [ev, Option.bind_eq_some_iff, Prod.exists] at h
  obtain ⟨x, s1, h1, y, s2, h2, dx, h3, dy, h4, k, h5, h6⟩ := h
  refine ⟨L, m, r, st, x, s1, he, hs, h1, fun v1 H1 L1 m1 e1 k1 r1 => ⟨L1, m1, r, s1, y, s2, he.mono e1, k1, h2, fun v2 H2 Lb m2 e2 k2 r2 => ?_⟩⟩
  refine ⟨Lb, m2, s2, dx, dy, .bool k, k2, (r1.mono e2).lk k2 h3, r2.lk k2 h4, (by show (cop o dx dy).map PyData.bool = _; rw [h5]; rfl), fun v H' g rv => ?_⟩
  cases rv
  have k2' := k2.gr g
  have e2' := (e1.trans e2).trans (k2.ext g)
  refine ⟨k, rfl, ?_⟩
  cases k with
  | false =>
    simp only [Bool.false_eq_true, if_false, Option.some.injEq, Prod.mk.injEq] at h6 ⊢
    obtain ⟨h6, h7⟩ := h6
    subst h6 h7
    exact q _ H' Lb m2 e2' k2' (.val (.bl _))
  | true =>
    simp only [if_true, Option.bind_eq_some_iff, Option.map_eq_some_iff, Prod.exists] at h6 ⊢
    obtain ⟨z, s3, g1, dy', g2, dz, g3, kk, g4, g5⟩ := h6
    cases g5
    refine ⟨Lb, m2, r, s2, z, _, he.mono e2', k2', g1, fun v3 H3 L3 m3 e3 k3 r3 => ?_⟩
    exact ⟨L3, m3, _, dy', dz, .bool kk, k3, ((r2.mono (k2.ext g)).mono e3).lk k3 g2, r3.lk k3 g3, (by show (cop o' dy' dz).map PyData.bool = _; rw [g4]; rfl), fun v H4 g rv => q.grown (e2'.trans e3) k3 g rv⟩

theorem tT_tE {K : PySem.W.Frag} {σ : Slots} {H : Hp} {Q : Bool → Hp → Prop} (h : tT K C ia σ H Q) : tE K C ia σ H (fun x H' => ∃ k, x = .bl k ∧ Q k H') := by
  obtain ⟨L, m, r, st, k, st', he, hs, h, q⟩ := h
  refine ⟨L, m, r, st, _, st', he, hs, h, fun v H' L' m' e1 k1 r1 => ?_⟩
  cases r1 with | val r1 =>
  cases r1
  exact ⟨k, rfl, q H' L' m' e1 k1⟩

/-! ### lists of arguments, displays -/
theorem s_nil : PA X [] (tA X.K C .nil) := pa_nil.weak fun σ H Q ⟨L, m, r, st, ws, st', he, hs, h, q⟩ => by
  simp only [evs] at h
  cases h
  exact q [] H L m .refl hs .nil
theorem s_cons (ha : PE X e (tE X.K C ia)) (hr : PA X es (tA X.K C ies)) (hst : starEach (e :: es) X.env = (false, eval e X.env) :: starEach es X.env) : PA X (e :: es) (tA X.K C (.cons ia ies)) :=
  (pa_cons ha hr hst).weak fun σ H Q ⟨L, m, r, st, ws, st', he, hs, h, q⟩ => by
    simp only [evs, Option.bind_eq_some_iff, Prod.exists] at h
    obtain ⟨x, s1, h1, xs, s2, h2, h3⟩ := h
    cases h3
    refine ⟨L, m, r, st, x, s1, he, hs, h1, fun v1 H1 L1 m1 e1 k1 r1 => ⟨L1, m1, r, s1, xs, _, he.mono e1, k1, h2, fun v2 H2 Lb m2 e2 k2 r2 => ?_⟩⟩
    exact q _ H2 Lb m2 (e1.trans e2) k2 (.cons (r1.mono e2) r2)
def lenE : Exs → Nat
  | .nil => 0
  | .cons _ es => lenE es + 1
theorem evs_length {C : CallF} : ∀ (es : Exs) {r : Rho} {st : Mem} {ws : List W} {st' : Mem}, evs C es r st = some (ws, st') → ws.length = lenE es
  | .nil, _, _, _, _, h => by simp only [evs] at h; cases h; rfl
  | .cons e es, _, _, _, _, h => by
    simp only [evs, Option.bind_eq_some_iff, Prod.exists] at h
    obtain ⟨x, s1, h1, xs, s2, h2, h3⟩ := h
    cases h3
    rw [List.length_cons, evs_length es h2]
    rfl
theorem s_tup {x1} (h : PA X es (tA X.K C ies)) (hl : lenE ies ≤ lineN) : PE X (.Tuple es x1 pos) (tE X.K C (.tup ies)) :=
  (pe_tup h).weak fun σ H Q ⟨L, m, r, st, w, st', he, hs, h, q⟩ => by
    simp only [ev, Option.bind_eq_some_iff, Prod.exists] at h
    obtain ⟨ws, s1, h1, ds, s2, h2, h3⟩ := h
    cases h3
    refine ⟨L, m, r, st, ws, s1, he, hs, h1, fun vs H1 L1 m1 e1 k1 r1 => ?_⟩
    have hz : vs.length ≤ sizeLine := by rw [Paired.length r1, evs_length ies h1]; exact Nat.le_trans hl line_le
    obtain ⟨Lb, k2, r2, e2⟩ := frzs_ok k1 r1 h2
    exact ⟨hz, fun p hp => q.grown (e1.trans e2) k2 (.new hp) (.tup (.inl ⟨upd_same, k2.new hp⟩) hz (r2.gr (.new hp)))⟩
theorem s_pk {e0 : Expr} {i : Nat} {x1} (h0 : PE X e0 (tE X.K C (.var i))) (h : PA X es (tA X.K C ies)) (hl : lenE ies < lineN) (he0 : starEach (e0 :: es) X.env = (false, eval e0 X.env) :: starEach es X.env) :
    PE X (.Tuple (e0 :: es) x1 pos) (tE X.K C (.pk i ies)) :=
  (pe_tup (pa_cons h0 h he0)).weak fun σ H Q ⟨L, m, r, st, w, st', he, hs, h, q⟩ => by
    simp only [ev, Option.bind_eq_some_iff, Prod.exists, id] at h
    obtain ⟨x, ⟨o, g1, g2⟩, ws, s1, h1, ds, s2, h2, h3⟩ := h
    subst g2
    split at h3
    · rename_i n
      split at h3
      · rename_i hlt
        cases h3
        refine ⟨L, m, r, st, .loc n, st, he, hs, by simp only [ev, g1, Option.bind_some, id, Option.map_some], fun v0 H0 L0 m0 e0 k0 r0 => ⟨L0, m0, r, st, ws, s1, he.mono e0, k0, h1, fun vs H1 L1 m1 e1 k1 r1 => ?_⟩⟩
        cases r0 with | @loc b _ g3 g4 =>
        have hz : vs.length < sizeLine := by rw [Paired.length r1, evs_length ies h1]; exact line_lt hl
        obtain ⟨Lb, k2, r2, e2⟩ := frzs_ok k1 r1 h2
        refine ⟨hz, fun p hp => ?_⟩
        have e3 := k2.ext (Gr.new (o := .tup (V.ref b :: vs)) hp)
        exact q _ _ Lb m1 (((e0.trans e1).trans e2).trans e3) (k2.gr (.new hp)) (.pk upd_same (k2.new hp) ((e1.trans e2).trans e3 |>.get g3) (((e1.trans e2).trans e3).lst g4) hz (r2.gr (.new hp)))
      · cases h3
    · cases h3
theorem f_zipL {p p2 pos pos2 : Pos} {e e2 : Expr} (hc : X.calm = true) (hg : Gl X "list") (hm : X.mg "list" = none) (hg2 : Gl X "zip") (hm2 : X.mg "zip" = none) (ha : PA X [e, e2] (tA X.K C ies))
    (hs : starEach [e, e2] X.env = (false, eval e X.env) :: starEach [e2] X.env) (hpl : (backTo pos2 (starEach [e2] X.env)).any (·.1) = false) :
    PE X (.Call (.Name "list" p) [.Call (.Name "zip" p2) [e, e2] [] pos2] [] pos) (tF X.K C (.zipL ies)) :=
  (pe_lstZip hc hg hm hg2 hm2 ha hs hpl).weak fun σ H Q ⟨L, m, r, st, ds, st', he, hs, h, q⟩ => by
    simp only [evF, Option.bind_eq_some_iff, Option.map_eq_some_iff, Prod.exists] at h
    obtain ⟨ws, s1, h1, ds', h2, h3⟩ := h
    cases h3
    refine ⟨L, m, r, st, ws, _, he, hs, h1, fun vs H1 L1 m1 e1 k1 r1 => ?_⟩
    unfold zipLs at h2
    split at h2
    · rename_i x y
      split at h2
      · rename_i xs ys g1 g2
        cases h2
        cases r1 with | cons ra r1 =>
        cases r1 with | cons rb r1 =>
        cases r1
        obtain ⟨a, us, rfl, q1, q2, q3⟩ := (ra.lookR k1 g1).toLst
        obtain ⟨b, us2, rfl, q4, q5, q6⟩ := (rb.lookR k1 g2).toLst
        refine ⟨a, b, us, us2, rfl, q1, q4, fun S H2 ps g hn hl hp => ?_⟩
        have gr : Gr H1 H2 := g
        have rep : RepA X.K H2 L1 ps (List.zipWith (fun u v => PyData.tuple [u, v]) xs ys) := by
          refine repA_of ?_ fun j p e => ?_
          · rw [hl, List.length_zipWith, q3.length, q6.length]
          · obtain ⟨T, x, y, rfl, hT, hT2, ex, ey⟩ := hp j p e
            have hjx : j < xs.length := by rw [← q3.length]; exact (List.getElem?_eq_some_iff.mp ex).1
            have hjy : j < ys.length := by rw [← q6.length]; exact (List.getElem?_eq_some_iff.mp ey).1
            obtain ⟨x', ex', rx⟩ := q3.get (List.getElem?_eq_getElem hjx)
            obtain ⟨y', ey', ry⟩ := q6.get (List.getElem?_eq_getElem hjy)
            rw [ex] at ex'
            rw [ey] at ey'
            cases ex'
            cases ey'
            refine ⟨.tuple [xs[j], ys[j]], ?_, .tup (.inl ⟨hT2, fun l => k1.trk T l hT⟩) (by show 2 ≤ sizeLine; decide) (.cons (rx.gr gr) (.cons (ry.gr gr) .nil))⟩
            rw [List.getElem?_zipWith, List.getElem?_eq_getElem hjx, List.getElem?_eq_getElem hjy]
        exact q S H2 L1 m1 ps (e1.trans (k1.ext gr)) (k1.gr gr) hn (by rw [hl]; exact Nat.le_trans (Nat.min_le_left _ _) q2) rep
      · cases h2
    · cases h2
theorem f_cat {a b : Expr} {ia ib : Ex} (ha : PE X a (tE X.K C ia)) (hb : PE X b (tE X.K C ib)) : PE X (.BinOp a .Add b pos) (tF X.K C (.cat ia ib)) :=
  (pe_op op_cat ha hb).weak fun σ H Q ⟨L, m, r, st, ds, st', he, hs, h, q⟩ => by
    simp only [evF, Option.bind_eq_some_iff, Option.map_eq_some_iff, Prod.exists] at h
    obtain ⟨x, s1, h1, y, s2, h2, dx, h3, dy, h4, es, h5, h6⟩ := h
    cases h6
    unfold catLs at h5
    split at h5
    · rename_i xs ys
      unfold catD at h5
      split at h5
      · rename_i hz
        cases h5
        refine ⟨L, m, r, st, x, s1, he, hs, h1, fun v1 H1 L1 m1 e1 k1 r1 => ⟨L1, m1, r, s1, y, _, he.mono e1, k1, h2, fun v2 H2 Lb m2 e2 k2 r2 => ?_⟩⟩
        obtain ⟨p1, us, rfl, g1, g2, g3⟩ := ((r1.mono e2).lk k2 h3).toList
        obtain ⟨p2, ws, rfl, g4, g5, g6⟩ := (r2.lk k2 h4).toList
        have hl : us.length + ws.length ≤ sizeLine := by rw [g3.length, g6.length]; exact Nat.le_trans hz line_le
        exact ⟨p1, p2, us, ws, rfl, rfl, g1, g4, hl, fun p hp => q p H2 Lb m2 (us ++ ws) (e1.trans e2) k2 hp (by rw [List.length_append]; exact hl) (g3.append g6)⟩
      · cases h5
    · cases h5
theorem f_disp (h : PA X es (tA X.K C ies)) (hl : lenE ies ≤ lineN) : PE X (.List es pos) (tF X.K C (.disp ies)) :=
  (pe_lst h).weak fun σ H Q ⟨L, m, r, st, ds, st', he, hs, h, q⟩ => by
    simp only [evF, Option.bind_eq_some_iff, Prod.exists] at h
    obtain ⟨ws, s1, h1, h2⟩ := h
    refine ⟨L, m, r, st, ws, s1, he, hs, h1, fun vs H1 L1 m1 e1 k1 r1 => ?_⟩
    have hz : vs.length ≤ sizeLine := by rw [Paired.length r1, evs_length ies h1]; exact Nat.le_trans hl line_le
    obtain ⟨Lb, k2, r2, e2⟩ := frzs_ok k1 r1 h2
    exact ⟨hz, fun p hp => q p H1 Lb m1 vs (e1.trans e2) k2 hp hz r2⟩
theorem s_fr {f : Fx} (h : PE X e (tF X.K C f)) : PE X e (tE X.K C (.fr f)) :=
  h.weak fun σ H Q ⟨L, m, r, st, w, st', he, hs, h, q⟩ => by
    simp only [ev, Option.bind_eq_some_iff, Prod.exists] at h
    obtain ⟨ds, s1, h1, h2⟩ := h
    cases h2
    exact ⟨L, m, r, st, ds, _, he, hs, h1, fun p H1 L1 m1 vs e1 k1 hp hz rv => q.grown e1 k1 (.new hp) (.lst upd_same (k1.new hp) hz (rv.gr (.new hp)))⟩

/-! ### indices and slices -/
theorem atI_rep {K : PySem.W.Frag} {H : Hp} {L : Ad} {vs : List V} {ds : List PyData} {i : Int} {d : PyData} (r : RepA K H L vs ds) (h : atI ds i = some d) : ∃ v, atI vs i = some v ∧ Rep K H L v d := by
  unfold atI at h ⊢
  rw [r.length]
  obtain ⟨j, h1, h2⟩ := Option.bind_eq_some_iff.mp h
  rw [h1]
  exact r.get h2
theorem s_idx (hu : X.A.units + 1 < cLine) (ha : PE X a (tE X.K C ia)) (hb : PE X b (tE X.K C ib)) (hp : PlainIx b) : PE X (.Subscript a b pos) (tE X.K C (.idx ia ib)) :=
  (pe_ix (ix_seq.or (ix_dic hu)) ha hb hp).weak fun σ H Q ⟨L, m, r, st, w, st', he, hs, h, q⟩ => by
    simp only [ev, Option.bind_eq_some_iff, Option.map_eq_some_iff, Prod.exists] at h
    obtain ⟨x, s1, h1, y, s2, h2, d, h5, h6⟩ := h
    cases h6
    refine ⟨L, m, r, st, x, s1, he, hs, h1, fun v1 H1 L1 m1 e1 k1 r1 => ⟨L1, m1, r, s1, y, _, he.mono e1, k1, h2, fun v2 H2 Lb m2 e2 k2 r2 => ?_⟩⟩
    have r1' := r1.mono e2
    have plain : (look st' x).bind (fun dx => (look st' y).bind fun dy => idxD dx dy) = some d → (rIx X.K v1 v2 H2 Q ∨ rIxD X.K v1 v2 H2 Q) := fun h5 => by
      simp only [Option.bind_eq_some_iff] at h5
      obtain ⟨dx, h3, dy, h4, h5⟩ := h5
      have g1 := r1'.lookR k2 h3
      have g2 := r2.lookR k2 h4
      unfold idxD at h5
      split at h5
      · obtain ⟨p, xs, rfl, q1, q2, q3⟩ := g1.toLst
        obtain rfl := g2.toInt
        obtain ⟨v, z1, z2⟩ := atI_rep q3 h5
        exact .inl (.inl ⟨p, xs, _, v, rfl, rfl, q1, z1, q _ H2 Lb m2 (e1.trans e2) k2 (.val z2)⟩)
      · obtain ⟨p, xs, rfl, q1, q2, q3⟩ := g1.toTup
        obtain rfl := g2.toInt
        obtain ⟨v, z1, z2⟩ := atI_rep q3 h5
        exact .inl (.inr (.inl ⟨p, xs, _, v, rfl, rfl, q1, z1, q _ H2 Lb m2 (e1.trans e2) k2 (.val z2)⟩))
      · cases h5
    cases r1' with
    | val h => exact plain h5
    | scr h l => exact plain h5
    | loc h g => exact plain h5
    | pk _ _ _ _ _ _ => simp [idxW, look] at h5
    | @dic a n hm hx =>
      simp only [idxW, Option.bind_eq_some_iff] at h5
      obtain ⟨kd, h3, ks, h4, c, hc, h5⟩ := h5
      obtain rfl := keyI_of h4
      obtain ⟨b, rfl, hb⟩ := (r2.lookR k2 h3).keyT
      obtain ⟨o, xs, q1, q2, q3, q4, _⟩ := (k2.cell n c a hc hm).dct hx
      obtain ⟨p, v, g1, g2, g3⟩ := dic_find q4 h5
      exact .inr ⟨a, b, o, ks, xs, p, v, rfl, rfl, hb, q1, dic_keys q4, g1, g2, q _ H2 Lb m2 (e1.trans e2) k2 (.val g3)⟩
theorem cut_rep {K : PySem.W.Frag} {H : Hp} {L : Ad} {vs : List V} {ds : List PyData} (r : RepA K H L vs ds) (lo hi : Option Int) : RepA K H L (cutV vs lo hi) (cutD ds lo hi) := by
  unfold cutV cutD
  rw [r.length]
  exact (r.drop _).take _
theorem cut_whole {ds : List PyData} {lo hi : Option Int} (h1 : HT.sIx ds.length 0 lo = 0) (h2 : HT.sIx ds.length ds.length hi = ds.length) : cutD ds lo hi = ds := by
  unfold cutD
  rw [h1, h2]
  simp
/-- a part of a slice -/
inductive PartOk (X : Cx) (C : CallF) : Option Expr → Exs → Prop
  | none : PartOk X C none .nil
  | some {e : Expr} {ie : Ex} : PE X e (tE X.K C ie) → PartOk X C (some e) (.cons ie .nil)
def tO (K : PySem.W.Frag) (C : CallF) (p : Exs) : Slots → Hp → (Option Int → Hp → Prop) → Prop := fun σ H Q => ∃ L m r st i st',
  EnvOk K H L m r σ ∧ StOk K H L m st ∧ (∃ ws ds, evs C p r st = some (ws, st') ∧ looks st' ws = some ds ∧ part1 ds = some i) ∧ QT K H L m st' (Q i)
theorem part_ok {o : Option Expr} {p : Exs} (h : PartOk X C o p) : ∃ t, PO X o t ∧ ∀ σ H Q, tO X.K C p σ H Q → t σ H Q := by
  cases h with
  | none =>
    refine ⟨_, po_none, fun σ H Q ⟨L, m, r, st, i, st', he, hs, ⟨ws, ds, h1, h2, h3⟩, q⟩ => ?_⟩
    simp only [evs] at h1
    cases h1
    cases h2
    cases h3
    exact q H L m .refl hs
  | some h =>
    refine ⟨_, po_some h, fun σ H Q ⟨L, m, r, st, i, st', he, hs, ⟨ws, ds, h1, h2, h3⟩, q⟩ => ?_⟩
    simp only [evs, Option.bind_eq_some_iff, Prod.exists] at h1
    obtain ⟨x, s1, g1, xs, s2, g2, g3⟩ := h1
    cases g2
    cases g3
    simp only [looks, Option.bind_eq_some_iff] at h2
    obtain ⟨d, z1, ds', z2, z3⟩ := h2
    cases z2
    cases z3
    unfold part1 at h3
    split at h3
    · rename_i q; cases q
    · rename_i k q
      cases q
      cases h3
      refine ⟨L, m, r, st, x, _, he, hs, g1, fun v1 H1 L1 m1 e1 k1 r1 => ?_⟩
      obtain rfl := (r1.lookR k1 z1).toInt
      exact ⟨_, rfl, q H1 L1 m1 e1 k1⟩
    · cases h3
theorem tO_mono {K : PySem.W.Frag} {p : Exs} {σ : Slots} {H : Hp} {Q Q' : Option Int → Hp → Prop} (h : tO K C p σ H Q) (w : ∀ i H', Q i H' → Q' i H') : tO K C p σ H Q' := by
  obtain ⟨L, m, r, st, i, st', he, hs, z, q⟩ := h
  exact ⟨L, m, r, st, i, st', he, hs, z, fun H' L' m' e1 k1 => w i H' (q H' L' m' e1 k1)⟩
theorem s_slc {lo hi : Option Expr} {pl ph : Exs} {p2 : Pos} (ha : PE X a (tE X.K C ia)) (hl : PartOk X C lo pl) (hh : PartOk X C hi ph) :
    PE X (.Subscript a (.Slice lo hi none p2) pos) (tE X.K C (.slc ia pl ph)) := by
  obtain ⟨tl, ol, wl⟩ := part_ok hl
  obtain ⟨th, oh, wh⟩ := part_ok hh
  refine (pe_slice (sl_list.or sl_tupA) ha ol oh).weak fun σ H Q ⟨L, m, r, st, w, st', he, hs, h, q⟩ => ?_
  simp only [ev, Option.bind_eq_some_iff, Option.map_eq_some_iff, Prod.exists] at h
  obtain ⟨x, s1, h1, l, s2, h2, dl, h5, kl, h7, u, s3, h3, dh, h6, kh, h8, dx, h4, d, h9, h10⟩ := h
  cases h10
  refine ⟨L, m, r, st, x, s1, he, hs, h1, fun v1 H1 L1 m1 e1 k1 r1 => ?_⟩
  refine wl _ _ _ ⟨L1, m1, r, s1, kl, s2, he.mono e1, k1, ⟨l, dl, h2, h5, h7⟩, fun H2 Lb m2 e2 k2 => ?_⟩
  refine wh _ _ _ ⟨Lb, m2, r, s2, kh, _, (he.mono e1).mono e2, k2, ⟨u, dh, h3, h6, h8⟩, fun H3 L3 m3 e3 k3 => ?_⟩
  have g1 := ((r1.mono e2).mono e3).lk k3 h4
  have e4 := (e1.trans e2).trans e3
  unfold slcD at h9
  split at h9
  · cases h9
    obtain ⟨p, xs, rfl, q1, q2, q3⟩ := g1.toList
    refine .inl ⟨p, xs, rfl, .of q1, fun z hz => q.grown e4 k3 (.new hz) (.lst upd_same (k3.new hz) (Nat.le_trans (cutV_length _ _ _) q2) ((cut_rep q3 _ _).gr (.new hz)))⟩
  · cases h9
    obtain ⟨p, xs, rfl, q1, q2, q3⟩ := g1.toTup
    refine .inr ⟨p, xs, rfl, q1, fun z => ?_, fun _ z hz => q.grown e4 k3 (.new hz) (.tup (.inl ⟨upd_same, k3.new hz⟩) (Nat.le_trans (cutV_length _ _ _) q2) ((cut_rep q3 _ _).gr (.new hz)))⟩
    rw [q3.length] at z
    rw [cut_whole z.1 z.2] at q
    cases g1 with | val g1 => exact q _ H3 L3 m3 e4 k3 (.val g1)
  · cases h9
theorem s_rev {k : Nat} {p1 p2 p3 : Pos} (ha : PE X a (tE X.K C ia)) :
    PE X (.Subscript a (.Slice none none (some (.UnaryOp .USub (.Constant (.int 1) k p1) p2)) p3) pos) (tE X.K C (.blt .rev1 (.cons ia .nil))) :=
  (pe_revL ha).weak fun σ H Q ⟨L, m, r, st, w, st', he, hs, h, q⟩ => by
    simp only [ev, evs, Option.bind_eq_some_iff, Option.map_eq_some_iff, Prod.exists] at h
    obtain ⟨ws, s1, ⟨x, s0, h1, ws', s2, h2, h3⟩, ds, h4, d, h5, h6⟩ := h
    cases h2
    cases h3
    cases h6
    simp only [looks, Option.bind_eq_some_iff] at h4
    obtain ⟨dx, h4, ds', h7, h8⟩ := h4
    cases h7
    cases h8
    refine ⟨L, m, r, st, x, _, he, hs, h1, fun v1 H1 L1 m1 e1 k1 r1 => ?_⟩
    have g1 := r1.lookR k1 h4
    cases dx <;> simp only [bltD, reduceCtorEq] at h5
    cases h5
    obtain ⟨p, xs, rfl, q1, q2, q3⟩ := g1.toLst
    exact ⟨p, xs, rfl, q1, fun z hz => q.grown e1 k1 (.new hz) (.lst upd_same (k1.new hz) (by rw [List.length_reverse]; exact q2) ((RepA.reverse q3).gr (.new hz)))⟩
theorem stepL_len {α : Type} (n : Int) (hn : 0 < n) (ds : List α) : (stepL n ds).length ≤ ds.length := by
  unfold stepL
  refine Nat.le_trans (List.length_filterMap_le _ _) (sliceRange_length_le _ _ _ _ (fun _ => ⟨Int.le_refl _, Int.le_refl _⟩) fun h => absurd hn h)
theorem stepL_rep {K : PySem.W.Frag} {H : Hp} {L : Ad} {vs : List V} {ds : List PyData} (n : Int) (h : RepA K H L vs ds) : RepA K H L (stepL n vs) (stepL n ds) := by
  unfold stepL
  rw [h.length]
  generalize sliceRange 0 ds.length n = js
  induction js with
  | nil => exact .nil
  | cons j js ih =>
    rw [List.filterMap_cons, List.filterMap_cons]
    cases e : ds[j]? with
    | none =>
      have e' : vs[j]? = none := by
        rw [List.getElem?_eq_none_iff] at e ⊢
        rw [h.length]; exact e
      rw [e']
      exact ih
    | some d =>
      obtain ⟨v, q1, q2⟩ := h.get e
      rw [q1]
      exact .cons q2 ih
theorem vals_step {xs : List V} {its : List Value} (n : Int) (r : Vals xs its) : Vals (stepL n xs) (stepL n its) := by
  unfold stepL
  rw [r.length]
  generalize sliceRange 0 its.length n = js
  induction js with
  | nil => exact .nil
  | cons j js ih =>
    rw [List.filterMap_cons, List.filterMap_cons]
    by_cases hj : j < xs.length
    · obtain ⟨u, hu, ru⟩ := r.get (List.getElem?_eq_getElem hj)
      rw [List.getElem?_eq_getElem hj, hu]
      exact .cons ru ih
    · rw [List.getElem?_eq_none (by omega), List.getElem?_eq_none (by rw [← r.length]; omega)]
      exact ih
def tStepL (K : PySem.W.Frag) (te ts : TE) : TE := fun σ H Q => te σ H fun x H1 => tPart ts σ H1 fun o H2 => ∃ a xs n, x = .ref a ∧ o = some n ∧ 0 < n ∧ SqL K H2 a xs ∧ ∀ p, H2 p = none → Q (.ref p) (upd H2 p (.lst (stepL n xs)))
theorem pe_stepL {e st : Expr} {te ts : TE} {p3 : Pos} (he : PE X e te) (hs : PE X st ts) : PE X (.Subscript e (.Slice none none (some st) p3) pos) (tStepL X.K te ts) := by
  refine ⟨fun pins s σ H Q I h => ?_⟩
  refine Subscript_ (thn (he.run pins s σ H _ I h) fun v s1 ⟨x, H1, I1, r1, q1⟩ => ?_)
  have hst : PO X (some st) (tPart ts) := po_some hs
  refine wpAny_Slice (thn (po_none.run pins s1 σ H1 (fun o H2 => o = none ∧ H2 = H1) I1 ⟨rfl, rfl⟩) fun vl s2 ⟨l, H2, I2, pl, el, e2⟩ => ?_)
  subst el e2
  refine thn (po_none.run pins s2 σ H2 (fun o H3 => o = none ∧ H3 = H2) I2 ⟨rfl, rfl⟩) fun vu s3 ⟨u, H3, I3, pu, eu, e3⟩ => ?_
  subst eu e3
  refine thn (hst.run pins s3 σ H3 _ I3 q1) fun vs s4 ⟨o, H4, I4, ps, q4⟩ => ?_
  obtain ⟨a, xs, n, rfl, rfl, hn, hx, q⟩ := q4
  cases r1
  have I5 : Inv X pins σ H4 { s4 with heap := s4.heap.push { cls := .type "slice", data := .fields #[vl, vu, vs] } } := I4.kept (t' := s4.toks) fun b ob q => Heap.get?_push_of_some _ q
  obtain ⟨its, r, ht, hz⟩ := I5.list hx
  have hlen := r.length
  show wpAny (model X.prog X.w) X.A (subscriptTail e (.Slice none none (some st) p3) (.ref a) (.ref s4.heap.objs.size)) (EP X pins σ Q) X.xe { s4 with heap := s4.heap.push { cls := .type "slice", data := .fields #[vl, vu, vs] } }
  refine tail_any (ops := [.ref a, .ref s4.heap.objs.size]) ht.isList.typeIs (PySem.slot_list_getitem.lookup) ?_ (by with_unfolding_all rfl)
  refine wpAny_getItem_list_slice ht.isList (Heap.IsSliceOf.new _ vl vu vs) pl pu ps (by simp; omega) ?_ (by rw [List.size_toArray]; omega)
  have hp : slicePick its.toArray none none (some n) = (stepL n its).toArray := by
    unfold slicePick sliceBounds stepL
    have h0 : (some n : Option Int).getD 1 > 0 := hn
    simp only [h0, if_true, List.size_toArray]
    congr 1
    show List.filterMap (fun x => its.toArray[x]?) (sliceRange 0 (its.length : Int) n) = _
    generalize sliceRange 0 (its.length : Int) n = js
    induction js with
    | nil => rfl
    | cons j js ih => simp [List.filterMap_cons]
  rw [hp]
  refine ⟨.ref _, _, I5.laid (t' := s4.toks) (o := .lst (stepL n xs)) (fun b ob q => Heap.get?_push_of_some _ q) (Nat.le_refl _) ?_, rfl, q _ (I5.hok.fresh (Nat.le_refl _))⟩
  exact ⟨Nat.le_trans (stepL_len n hn xs) hz, _, 0, vals_step n r, Heap.get?_push_size _ rfl⟩
theorem s_step {st : Expr} {is : Ex} {p3 : Pos} (ha : PE X a (tE X.K C ia)) (hs : PE X st (tE X.K C is)) :
    PE X (.Subscript a (.Slice none none (some st) p3) pos) (tE X.K C (.blt .step1 (.cons ia (.cons is .nil)))) :=
  (pe_stepL ha hs).weak fun σ H Q ⟨L, m, r, s0, w, s', he, hs, h, q⟩ => by
    simp only [ev, evs, Option.bind_eq_some_iff, Option.map_eq_some_iff, Prod.exists] at h
    obtain ⟨ws, s1, ⟨x, s2, h1, ws', s3, ⟨y, s4, h2, ws2, s5, h3, h4⟩, h5⟩, ds, h6, d, h7, h8⟩ := h
    cases h3
    cases h4
    cases h5
    cases h8
    simp only [looks, Option.bind_eq_some_iff] at h6
    obtain ⟨dx, h6, ds', ⟨dy, h9, ds2, h10, h11⟩, h12⟩ := h6
    cases h10
    cases h11
    cases h12
    refine ⟨L, m, r, s0, x, _, he, hs, h1, fun v1 H1 L1 m1 e1 k1 r1 => ⟨L1, m1, r, s2, y, _, he.mono e1, k1, h2, fun v2 H2 L2 m2 e2 k2 r2 => ?_⟩⟩
    have g1 := (r1.mono e2).lookR k2 h6
    have g2 := r2.lookR k2 h9
    cases dx <;> cases dy <;> simp only [bltD, reduceCtorEq] at h7
    split at h7
    · rename_i hn
      cases h7
      obtain ⟨p, xs, rfl, q1, q2, q3⟩ := g1.toLst
      obtain rfl := g2.toInt
      exact ⟨_, rfl, p, xs, _, rfl, rfl, hn, q1, fun z hz => q.grown (e1.trans e2) k2 (.new hz) (.lst upd_same (k2.new hz) (Nat.le_trans (stepL_len _ hn _) q2) ((stepL_rep _ q3).gr (.new hz)))⟩
    · cases h7
end
end Sk

/-! Sk5: built-in functions, methods of lists -/
namespace Sk
open PySem PySem.Spec PyProof.Rows L2
open PySem.PyData (noDict_hsm hasDict_of_canLay)

/-- a built-in function upon read data -/
def rB (K : PySem.W.Frag) (b : Blt) : List V → Hp → VK → Prop := fun vs H Q => ∃ L m st ds d, StOk K H L m st ∧ RepRs K H L vs ds ∧ bltD b ds = some d ∧
  ∀ v H', Gr H H' → Rep K H' L v d → Q v H'
section
variable {X : Cx} {C : CallF} {pos p : Pos} {e : Expr} {es : List Expr} {ies : Exs} {b : Blt} {x : Str}
theorem s_blt {t : TE} (h : PE X e t) (ht : ∀ σ H Q, tCB (rB X.K b) (tA X.K C ies) σ H Q → t σ H Q) : PE X e (tE X.K C (.blt b ies)) :=
  h.weak fun σ H Q ⟨L, m, r, st, w, st', he, hs, h, q⟩ => by
    simp only [ev, Option.bind_eq_some_iff, Option.map_eq_some_iff, Prod.exists] at h
    obtain ⟨ws, s1, h1, ds, h2, d, h3, h4⟩ := h
    cases h4
    exact ht σ H Q ⟨L, m, r, st, ws, _, he, hs, h1, fun vs H1 L1 m1 e1 k1 r1 => ⟨L1, m1, _, ds, d, k1, looks_ok k1 r1 h2, h3, fun v H' g rv => q.grown e1 k1 g rv⟩⟩
theorem one_of {K : PySem.W.Frag} {H : Hp} {L : Ad} {vs : List V} {d : PyData} (h : RepRs K H L vs [d]) : ∃ v, vs = [v] ∧ RepR K H L v d := by
  cases h with | cons h t => cases t; exact ⟨_, rfl, h⟩
theorem two_of {K : PySem.W.Frag} {H : Hp} {L : Ad} {vs : List V} {d d' : PyData} (h : RepRs K H L vs [d, d']) : ∃ v v', vs = [v, v'] ∧ RepR K H L v d ∧ RepR K H L v' d' := by
  cases h with | cons h t => cases t with | cons g t => cases t; exact ⟨_, _, rfl, h, g⟩
theorem b_len : CallR X (.builtin "len") (rB X.K .len) := by
  intro pins s σ H xs us Q I r h
  obtain ⟨L, m, st, ds, d, k, rr, e, q⟩ := h
  unfold bltD at e
  split at e
  all_goals first | (exfalso; simp_all; done) | skip
  · cases e
    obtain ⟨v, rfl, rv⟩ := one_of rr
    obtain ⟨a, xs, rfl, h1, h2, h3⟩ := rv.toLst
    refine call_len_seq pins s σ H _ us Q I r ⟨a, xs, rfl, .inl h1, q _ H (.refl _) ?_⟩
    rw [h3.length]
    exact .int _
  · cases e
    obtain ⟨v, rfl, rv⟩ := one_of rr
    obtain ⟨a, xs, rfl, h1, h2, h3⟩ := rv.toTup
    refine call_len_seq pins s σ H _ us Q I r ⟨a, xs, rfl, .inr h1, q _ H (.refl _) ?_⟩
    rw [h3.length]
    exact .int _
theorem b_abs : CallR X (.builtin "abs") (rB X.K .abs) := by
  intro pins s σ H xs us Q I r h
  obtain ⟨L, m, st, ds, d, k, rr, e, q⟩ := h
  unfold bltD at e
  split at e
  all_goals first | (exfalso; simp_all; done) | skip
  rename_i i _
  cases e
  obtain ⟨v, rfl, rv⟩ := one_of rr
  obtain rfl := rv.toInt
  refine call_abs pins s σ H _ us Q I r ⟨_, rfl, q _ H (.refl _) ?_⟩
  rw [show (if i < 0 then -i else i) = (i.natAbs : Int) by split <;> omega]
  exact .int _
theorem b_int : CallR X (.type "int") (rB X.K .int1) := by
  intro pins s σ H xs us Q I r h
  obtain ⟨L, m, st, ds, d, k, rr, e, q⟩ := h
  unfold bltD at e
  split at e
  all_goals first | (exfalso; simp_all; done) | skip
  · cases e
    obtain ⟨v, rfl, rv⟩ := one_of rr
    obtain rfl := rv.toInt
    exact call_int1 pins s σ H _ us Q I r (.inl ⟨_, rfl, q _ H (.refl _) (.int _)⟩)
  · cases e
    obtain ⟨v, rfl, rv⟩ := one_of rr
    obtain rfl := rv.toBool
    exact call_int1 pins s σ H _ us Q I r (.inr ⟨_, rfl, q _ H (.refl _) (.int _)⟩)
theorem b_tup : CallR X (.type "tuple") (rB X.K .tup1) := by
  intro pins s σ H xs us Q I r h
  obtain ⟨L, m, st, ds, d, k, rr, e, q⟩ := h
  unfold bltD at e
  split at e
  all_goals first | (exfalso; simp_all; done) | skip
  · cases e
    obtain ⟨v, rfl, rv⟩ := one_of rr
    obtain ⟨a, xs, rfl, h1, h2, h3⟩ := rv.toLst
    exact call_tuple_of pins s σ H _ us Q I r ⟨a, xs, rfl, .inl ⟨h1, fun l hl => q _ _ (.new hl) (.tup (.inl ⟨upd_same, k.new hl⟩) h2 (h3.gr (.new hl)))⟩⟩
  · cases e
    obtain ⟨v, rfl, rv⟩ := one_of rr
    obtain ⟨a, xs, rfl, h1, h2, h3⟩ := rv.toTup
    refine call_tuple_of pins s σ H _ us Q I r ⟨a, xs, rfl, .inr ⟨h1, q _ H (.refl _) ?_⟩⟩
    cases rv with | val rv => cases rv with | val rv => exact rv
theorem b_min (hc : X.calm = true) : CallR X (.builtin "min") (rB X.K .min2) := by
  intro pins s σ H xs us Q I r h
  obtain ⟨L, m, st, ds, d, k, rr, e, q⟩ := h
  unfold bltD at e
  split at e
  all_goals first | (exfalso; simp_all; done) | skip
  rename_i i j _
  cases e
  obtain ⟨v, v', rfl, rv, rv'⟩ := two_of rr
  obtain rfl := rv.toInt
  obtain rfl := rv'.toInt
  refine call_min2 hc pins s σ H _ us Q I r ⟨_, _, rfl, q _ H (.refl _) ?_⟩
  rw [show (if j < i then j else i) = min i j by split <;> omega]
  exact .int _
theorem b_max (hc : X.calm = true) : CallR X (.builtin "max") (rB X.K .max2) := by
  intro pins s σ H xs us Q I r h
  obtain ⟨L, m, st, ds, d, k, rr, e, q⟩ := h
  unfold bltD at e
  split at e
  all_goals first | (exfalso; simp_all; done) | skip
  rename_i i j _
  cases e
  obtain ⟨v, v', rfl, rv, rv'⟩ := two_of rr
  obtain rfl := rv.toInt
  obtain rfl := rv'.toInt
  refine call_max2 hc pins s σ H _ us Q I r ⟨_, _, rfl, q _ H (.refl _) ?_⟩
  rw [show (if j > i then j else i) = max i j by split <;> omega]
  exact .int _
theorem bools_ok {K : PySem.W.Frag} {H : Hp} {L : Ad} : ∀ {ds : List PyData} {vs : List V} {bs : List Bool}, RepA K H L vs ds → bools ds = some bs → vs = bs.map V.bl
  | [], _, _, h, e => by cases h; cases e; rfl
  | d :: ds, _, _, h, e => by
    cases h with
    | cons h1 h2 =>
      unfold bools at e
      split at e
      · rename_i q; cases q
      · rename_i q
        cases q
        obtain ⟨bs, e1, rfl⟩ := Option.map_eq_some_iff.mp e
        cases h1
        rw [bools_ok h2 e1]
        rfl
      · cases e
theorem b_any (hc : X.calm = true) : CallR X (.builtin "any") (rB X.K .any1) := by
  intro pins s σ H xs us Q I r h
  obtain ⟨L, m, st, ds, d, k, rr, e, q⟩ := h
  unfold bltD at e
  split at e
  all_goals first | (exfalso; simp_all; done) | skip
  obtain ⟨bs, e1, rfl⟩ := Option.map_eq_some_iff.mp e
  obtain ⟨v, rfl, rv⟩ := one_of rr
  obtain ⟨a, xs, rfl, h1, h2, h3⟩ := rv.toLst
  have hb := bools_ok h3 e1
  subst hb
  exact cr_any hc pins s σ H _ us Q I r ⟨a, bs, rfl, h1, q _ H (.refl _) (.bl _)⟩
theorem b_all (hc : X.calm = true) : CallR X (.builtin "all") (rB X.K .all1) := by
  intro pins s σ H xs us Q I r h
  obtain ⟨L, m, st, ds, d, k, rr, e, q⟩ := h
  unfold bltD at e
  split at e
  all_goals first | (exfalso; simp_all; done) | skip
  obtain ⟨bs, e1, rfl⟩ := Option.map_eq_some_iff.mp e
  obtain ⟨v, rfl, rv⟩ := one_of rr
  obtain ⟨a, xs, rfl, h1, h2, h3⟩ := rv.toLst
  have hb := bools_ok h3 e1
  subst hb
  exact cr_all hc pins s σ H _ us Q I r ⟨a, bs, rfl, h1, q _ H (.refl _) (.bl _)⟩
theorem intsD_ok {K : PySem.W.Frag} {H : Hp} {L : Ad} : ∀ {ds : List PyData} {vs : List V} {bs : List Int}, RepA K H L vs ds → intsD ds = some bs → vs = bs.map V.int
  | [], _, _, h, e => by cases h; cases e; rfl
  | d :: ds, _, _, h, e => by
    cases h with
    | cons h1 h2 =>
      unfold intsD at e
      split at e
      · rename_i q; cases q
      · rename_i q
        cases q
        obtain ⟨bs, e1, rfl⟩ := Option.map_eq_some_iff.mp e
        cases h1
        rw [intsD_ok h2 e1]
        rfl
      · cases e
theorem foldl_max : ∀ (ns : List Int) (n : Int), ns.foldl max n ∈ n :: ns ∧ ∀ y ∈ n :: ns, y ≤ ns.foldl max n
  | [], n => by simp
  | k :: ns, n => by
    obtain ⟨h1, h2⟩ := foldl_max ns (max n k)
    rw [List.foldl_cons]
    refine ⟨?_, fun y hy => ?_⟩
    · rcases List.mem_cons.mp h1 with h | h
      · rw [h]
        by_cases hk : n ≤ k
        · rw [Int.max_eq_right hk]; simp
        · rw [Int.max_eq_left (by omega)]; simp
      · exact List.mem_cons_of_mem _ (List.mem_cons_of_mem _ h)
    · rcases List.mem_cons.mp hy with rfl | hy
      · exact Int.le_trans (Int.le_max_left _ _) (h2 _ (List.mem_cons_self ..))
      · rcases List.mem_cons.mp hy with rfl | hy
        · exact Int.le_trans (Int.le_max_right _ _) (h2 _ (List.mem_cons_self ..))
        · exact h2 y (List.mem_cons_of_mem _ hy)
theorem foldl_min : ∀ (ns : List Int) (n : Int), ns.foldl min n ∈ n :: ns ∧ ∀ y ∈ n :: ns, ns.foldl min n ≤ y
  | [], n => by simp
  | k :: ns, n => by
    obtain ⟨h1, h2⟩ := foldl_min ns (min n k)
    rw [List.foldl_cons]
    refine ⟨?_, fun y hy => ?_⟩
    · rcases List.mem_cons.mp h1 with h | h
      · rw [h]
        by_cases hk : n ≤ k
        · rw [Int.min_eq_left hk]; simp
        · rw [Int.min_eq_right (by omega)]; simp
      · exact List.mem_cons_of_mem _ (List.mem_cons_of_mem _ h)
    · rcases List.mem_cons.mp hy with rfl | hy
      · exact Int.le_trans (h2 _ (List.mem_cons_self ..)) (Int.min_le_left _ _)
      · rcases List.mem_cons.mp hy with rfl | hy
        · exact Int.le_trans (h2 _ (List.mem_cons_self ..)) (Int.min_le_right _ _)
        · exact h2 y (List.mem_cons_of_mem _ hy)
theorem b_max1 (hc : X.calm = true) : CallR X (.builtin "max") (rB X.K .max1) := by
  intro pins s σ H xs us Q I r h
  obtain ⟨L, m, st, ds, d, k, rr, e, q⟩ := h
  unfold bltD at e
  split at e
  all_goals first | (exfalso; simp_all; done) | skip
  simp only [Option.bind_eq_some_iff, Option.map_eq_some_iff] at e
  obtain ⟨bs, e1, b, e2, rfl⟩ := e
  obtain ⟨v, rfl, rv⟩ := one_of rr
  obtain ⟨a, xs, rfl, h1, h2, h3⟩ := rv.toLst
  have hb := intsD_ok h3 e1
  subst hb
  cases bs with
  | nil => cases e2
  | cons n ns =>
    cases e2
    obtain ⟨g1, g2⟩ := foldl_max ns n
    refine cr_max hc pins s σ H _ us Q I r ⟨a, n :: ns, rfl, h1, by simp, fun m hm hle => ?_⟩
    have : m = ns.foldl max n := Int.le_antisymm (g2 m hm) (hle _ g1)
    rw [this]
    exact q _ H (.refl _) (.int _)
theorem b_min1 (hc : X.calm = true) : CallR X (.builtin "min") (rB X.K .min1) := by
  intro pins s σ H xs us Q I r h
  obtain ⟨L, m, st, ds, d, k, rr, e, q⟩ := h
  unfold bltD at e
  split at e
  all_goals first | (exfalso; simp_all; done) | skip
  simp only [Option.bind_eq_some_iff, Option.map_eq_some_iff] at e
  obtain ⟨bs, e1, b, e2, rfl⟩ := e
  obtain ⟨v, rfl, rv⟩ := one_of rr
  obtain ⟨a, xs, rfl, h1, h2, h3⟩ := rv.toLst
  have hb := intsD_ok h3 e1
  subst hb
  cases bs with
  | nil => cases e2
  | cons n ns =>
    cases e2
    obtain ⟨g1, g2⟩ := foldl_min ns n
    refine cr_min hc pins s σ H _ us Q I r ⟨a, n :: ns, rfl, h1, by simp, fun m hm hle => ?_⟩
    have : m = ns.foldl min n := Int.le_antisymm (hle _ g1) (g2 m hm)
    rw [this]
    exact q _ H (.refl _) (.int _)
theorem b_sum1 (hc : X.calm = true) : CallR X (.builtin "sum") (rB X.K .sum1) := by
  intro pins s σ H xs us Q I r h
  obtain ⟨L, m, st, ds, d, k, rr, e, q⟩ := h
  unfold bltD at e
  split at e
  all_goals first | (exfalso; simp_all; done) | skip
  simp only [Option.map_eq_some_iff] at e
  obtain ⟨bs, e1, rfl⟩ := e
  obtain ⟨v, rfl, rv⟩ := one_of rr
  obtain ⟨a, xs, rfl, h1, h2, h3⟩ := rv.toLst
  have hb := intsD_ok h3 e1
  subst hb
  exact cr_sum hc pins s σ H _ us Q I r ⟨a, bs, rfl, h1, q _ H (.refl _) (.int _)⟩
theorem b_str (hg : X.A.guards = some []) (hu : X.A.units + 80 < cLine) : CallR X (.type "str") (rB X.K .str1) := by
  intro pins s σ H xs us Q I r h
  obtain ⟨L, m, st, ds, d, k, rr, e, q⟩ := h
  have fin : ∀ {a : Addr} {d : PyData} {as : List Addr}, Reads s.heap (.ref a) d as → d.showable = true → fit d = true → d.shown.length ≤ sizeLine → (∀ v H', Gr H H' → Rep X.K H' L v (.str d.shown) → Q v H') →
      wpAny (model X.prog X.w) X.A (call (.type "str") [.ref a]) (EP X pins σ Q) X.xe s := fun {a d as} rd h1 h2 h3 q => by
    obtain ⟨c1, c2⟩ := okd_can 60 d h2
    exact PySem.str_of_reads rd h1 (noDict_hsm (hasDict_of_canLay _ c1)) hg (by omega) (fun _ _ h => h) (fun h' u tk hk => ⟨.str d.shown, H, I.kept hk, ⟨_, rfl⟩, q _ H (.refl _) (.str _)⟩) h3
  have obj : ∀ {d d' : PyData} {v : V} {a : Addr}, v = .ref a → RepR X.K H L v d → shw d = some d' → (∀ v H', Gr H H' → Rep X.K H' L v d' → Q v H') → Vals [v] us →
      wpAny (model X.prog X.w) X.A (call (.type "str") us) (EP X pins σ Q) X.xe s := fun {d d' v a} ev rv e q r => by
    subst ev
    unfold shw at e
    split at e
    · rename_i hc
      cases e
      simp only [Bool.and_eq_true, decide_eq_true_eq] at hc
      cases r with | cons r1 r2 =>
      cases r2
      cases r1
      obtain ⟨as, rd⟩ := Dp.reads I d (.ref a) (.ref a) rv.dp rfl
      exact fin rd hc.1.1 hc.1.2 hc.2 q
    · cases e
  unfold bltD at e
  split at e
  all_goals first | (exfalso; simp_all; done) | skip
  · split at e
    · cases e
      obtain ⟨v, rfl, rv⟩ := one_of rr
      obtain rfl := rv.toInt
      exact call_str_int pins s σ H _ us Q I r ⟨_, rfl, by assumption, q _ H (.refl _) (.str _)⟩
    · cases e
  · cases e
    obtain ⟨v, rfl, rv⟩ := one_of rr
    obtain rfl := rv.toStr
    cases r with | cons r1 r2 =>
    cases r2
    obtain ⟨t, rfl⟩ := r1
    exact PySem.P.str_of_str ⟨.str _, H, I, ⟨_, rfl⟩, q _ H (.refl _) (.str _)⟩
  · cases e
    obtain ⟨v, rfl, rv⟩ := one_of rr
    cases rv with | val rv =>
    cases rv with | val rv =>
    cases rv
    cases r with | cons r1 r2 =>
    cases r2
    cases r1
    exact PySem.P.str_of_none ⟨.str _, H, I.tok _, ⟨_, rfl⟩, q _ H (.refl _) (.str _)⟩
  · cases e
    obtain ⟨v, rfl, rv⟩ := one_of rr
    obtain rfl := rv.toBool
    cases r with | cons r1 r2 =>
    cases r2
    cases r1
    exact PySem.P.str_of_bool ⟨.str _, H, I.tok _, ⟨_, rfl⟩, q _ H (.refl _) (.str _)⟩
  · obtain ⟨v, rfl, rv⟩ := one_of rr
    obtain ⟨a, xs, rfl, h1, h2, h3⟩ := rv.toLst
    exact obj rfl rv e q r
  · obtain ⟨v, rfl, rv⟩ := one_of rr
    obtain ⟨a, xs, rfl, h1, h2, h3⟩ := rv.toTup
    exact obj rfl rv e q r

/-! ### isinstance -/
theorem Rep.ty {K : PySem.W.Frag} {H : Hp} {L : Ad} {v : V} {d : PyData} (h : RepR K H L v d) : ∃ T, TyX K H v (.type T) ∧ (T = "NoneType" ∧ d = .none ∨ T = "bool" ∧ (∃ b, d = .bool b) ∨ T = "int" ∧ (∃ i, d = .int i) ∨
    T = "str" ∧ (∃ x, d = .str x) ∨ T = "list" ∧ (∃ x, d = .list x) ∨ T = "tuple" ∧ ∃ x, d = .tuple x) := by
  cases h with
  | val h =>
    cases h with
    | val h =>
      cases h with
      | non => exact ⟨_, .base .non, by simp⟩
      | bl b => exact ⟨_, .base (.bl b), by simp⟩
      | int b => exact ⟨_, .base (.int b), by simp⟩
      | str b => exact ⟨_, .base (.str b), by simp⟩
      | lst h => exact ⟨_, .base (.lst h), by simp⟩
      | tup h =>
        rcases h with ⟨h, _⟩ | ⟨o, its, n, h1, h2, _⟩
        · exact ⟨_, .base (.tup h), by simp⟩
        · exact ⟨_, .kTuple h1 h2, by simp⟩
    | lst h => exact ⟨_, .base (.lst h), by simp⟩
  | scr h l =>
    rcases h with ⟨o, h, _⟩ | ⟨o, its, n, h1, h2, _⟩
    · exact ⟨_, .base (.frz h), by simp⟩
    · exact ⟨_, .kList h1 h2, by simp⟩
def tys : List String := ["int", "bool", "list", "tuple", "str"]
theorem kit_all : ∀ T ∈ ["NoneType", "bool", "int", "str", "list", "tuple"], ∀ U ∈ tys, kitB T U = some (T == U || (T == "bool" && U == "int")) := by decide +kernel
theorem ty_kit {K : PySem.W.Frag} {H : Hp} {L : Ad} {v : V} {d : PyData} (h : RepR K H L v d) : ∃ T, TyX K H v (.type T) ∧ ∀ U ∈ tys, PySem.W.kitOne K (.type T) (.type U) = some (isTy U d) := by
  obtain ⟨T, h1, h2⟩ := Rep.ty h
  refine ⟨T, h1, fun U hU => ?_⟩
  have hT : T ∈ ["NoneType", "bool", "int", "str", "list", "tuple"] := by
    rcases h2 with h | h | h | h | h | h <;> simp [h.1]
  have q := kit_ty (K := K) (kit_all T hT U hU)
  rw [q]
  congr 1
  simp only [tys, List.mem_cons, List.not_mem_nil, or_false] at hU
  rcases h2 with ⟨rfl, rfl⟩ | ⟨rfl, _, rfl⟩ | ⟨rfl, _, rfl⟩ | ⟨rfl, _, rfl⟩ | ⟨rfl, _, rfl⟩ | ⟨rfl, _, rfl⟩ <;> rcases hU with rfl | rfl | rfl | rfl | rfl <;> first | rfl | decide
/-- isinstance(e, T) -/
theorem s_isi1 {U : String} {ie : Ex} {u : Expr} (hU : U ∈ tys) (hg : Gl X "isinstance") (hm : X.mg "isinstance" = none) (he : PE X e (tE X.K C ie)) (hu : PE X u (tC (.ty U)))
    (hs : starEach [e, u] X.env = (false, eval e X.env) :: starEach [u] X.env) (hs2 : starEach [u] X.env = (false, eval u X.env) :: starEach [] X.env) :
    PE X (.Call (.Name "isinstance" p) [e, u] [] pos) (tE X.K C (.blt (.isi [U]) (.cons ie .nil))) := by
  refine (pe_callB call_isi hg hm (by decide +kernel) (pa_cons he (pa_cons hu pa_nil hs2) hs) (he := hs) (hpl := by rw [hs2]; rfl)).weak fun σ H Q ⟨L, m, r, st, w, st', he, hs, h, q⟩ => ?_
  simp only [ev, evs, Option.bind_eq_some_iff, Option.map_eq_some_iff, Prod.exists] at h
  obtain ⟨ws, s1, ⟨x, s2, h1, ws', s3, h2, h3⟩, ds, h4, d, h5, h6⟩ := h
  cases h2
  cases h3
  cases h6
  simp only [looks, Option.bind_eq_some_iff] at h4
  obtain ⟨dx, h7, ds', h8, h9⟩ := h4
  cases h8
  cases h9
  cases h5
  refine ⟨L, m, r, st, x, _, he, hs, h1, fun v1 H1 L1 m1 e1 k1 r1 => ?_⟩
  obtain ⟨T, g1, g2⟩ := ty_kit (r1.lookR k1 h7)
  exact ⟨v1, .ty U, .type T, .type U, isTy U dx, rfl, .ty U, g1, g2 U hU, q _ H1 L1 m1 e1 k1 (by simpa using RepW.val (Rep.bl (isTy U dx)))⟩
/-- isinstance(e, (T, U)) -/
theorem s_isi2 {U U' : String} {ie : Ex} {u u' : Expr} {k : Nat} {tp : Pos} (hU : U ∈ tys) (hU' : U' ∈ tys) (hg : Gl X "isinstance") (hm : X.mg "isinstance" = none) (he : PE X e (tE X.K C ie)) (hu : PE X u (tC (.ty U))) (hu' : PE X u' (tC (.ty U')))
    (hs : starEach [e, .Tuple [u, u'] k tp] X.env = (false, eval e X.env) :: starEach [.Tuple [u, u'] k tp] X.env)
    (hs2 : starEach [u, u'] X.env = (false, eval u X.env) :: starEach [u'] X.env) (hs3 : starEach [u'] X.env = (false, eval u' X.env) :: starEach [] X.env) :
    PE X (.Call (.Name "isinstance" p) [e, .Tuple [u, u'] k tp] [] pos) (tE X.K C (.blt (.isi [U, U']) (.cons ie .nil))) := by
  refine (pe_callB call_isiT hg hm (by decide +kernel) (pa_cons he (pa_cons (pe_tup (pa_cons hu (pa_cons hu' pa_nil hs3) hs2)) pa_nil rfl) hs) (he := hs) (hpl := by rfl)).weak fun σ H Q ⟨L, m, r, st, w, st', he, hs, h, q⟩ => ?_
  simp only [ev, evs, Option.bind_eq_some_iff, Option.map_eq_some_iff, Prod.exists] at h
  obtain ⟨ws, s1, ⟨x, s2, h1, ws', s3, h2, h3⟩, ds, h4, d, h5, h6⟩ := h
  cases h2
  cases h3
  cases h6
  simp only [looks, Option.bind_eq_some_iff] at h4
  obtain ⟨dx, h7, ds', h8, h9⟩ := h4
  cases h8
  cases h9
  cases h5
  refine ⟨L, m, r, st, x, _, he, hs, h1, fun v1 H1 L1 m1 e1 k1 r1 => ⟨by show 2 ≤ sizeLine; decide, fun p hp => ?_⟩⟩
  have g := Gr.new (o := .tup [V.ty U, V.ty U']) hp
  obtain ⟨T, g1, g2⟩ := ty_kit ((r1.mono (k1.ext g)).lookR (k1.gr g) h7)
  refine ⟨v1, p, [.ty U, .ty U'], .type T, [.type U, .type U'], [U, U'].any (fun t => isTy t dx), rfl, upd_same, .cons (.ty U) (.cons (.ty U') .nil), g1, ?_, q _ _ L1 m1 (e1.trans (k1.ext g)) (k1.gr g) (.val (.bl _))⟩
  refine kitAny_cons (g2 U hU) (fun z => ?_) (fun z => by simp [z])
  refine kitAny_cons (g2 U' hU') (fun z' => ?_) (fun z' => by simp [z'])
  simp only [List.any_cons, List.any_nil, z, z', Bool.or_false]
  exact kitAny_nil

/-! ### a dict of texts, looked up -/
def DicEs (pm : Params) (K : PySem.W.Frag) : List DictEntry → List (Str × PyData) → Prop
  | [], [] => True
  | e :: es, kv :: kvs => e.hash = PyData.keyHash pm kv.1 ∧ (∃ t, e.key = .str kv.1 t) ∧ (∃ v, RelV v e.val ∧ ∀ H L, Rep K H L v kv.2) ∧ DicEs pm K es kvs
  | _, _ => False
/-- a dict that the module's top wrote -/
def DicAt (pm : Params) (K : PySem.W.Frag) (mg : Str → Option Value) (x : Str) (kvs : List (Str × PyData)) : Prop :=
  ∃ a o es ep, mg x = some (.ref a) ∧ K.lookup a = some o ∧ o.ExactDict ∧ o.data = .dict es ep ∧ DicEs pm K es.toList kvs
theorem dicEs_key {pm : Params} {K : PySem.W.Frag} : ∀ {es : List DictEntry} {kvs : List (Str × PyData)}, DicEs pm K es kvs → ∀ e ∈ es, ∃ k t, e.key = .str k t ∧ e.hash = PyData.keyHash pm k
  | [], _, _, e, he => by cases he
  | e :: es, kv :: kvs, h, e', he => by
    obtain ⟨h1, ⟨t, h2⟩, _, h4⟩ := h
    rcases List.mem_cons.mp he with rfl | he
    · exact ⟨_, t, h2, h1⟩
    · exact dicEs_key h4 e' he
  | _ :: _, [], h, _, _ => h.elim
theorem dicEs_find {pm : Params} {K : PySem.W.Frag} {z : Str} {d : PyData} : ∀ {es : List DictEntry} {kvs : List (Str × PyData)}, DicEs pm K es kvs → kvs.lookup z = some d → ∃ e, es.find? (fun e => Value.isStrOf z e.key) = some e ∧ ∃ v, RelV v e.val ∧ ∀ H L, Rep K H L v d
  | [], [], _, h => by cases h
  | e :: es, kv :: kvs, h, hl => by
    obtain ⟨h1, ⟨t, h2⟩, h3, h4⟩ := h
    obtain ⟨k, d'⟩ := kv
    rw [List.lookup_cons] at hl
    rw [List.find?_cons, h2]
    simp only [Value.isStrOf]
    split at hl
    · rename_i hb
      cases hl
      have : z = k := LawfulBEq.eq_of_beq hb
      subst this
      exact ⟨e, by simp, h3⟩
    · rename_i hb
      have : (k == z) = false := by
        rw [Bool.eq_false_iff]
        intro q
        rw [LawfulBEq.eq_of_beq q] at hb
        simp at hb
      rw [this]
      exact dicEs_find h4 hl
  | [], _ :: _, h, _ => h.elim
  | _ :: _, [], h, _ => h.elim
/-- D[e], D a dict of the module's top -/
theorem s_dlkC {x : Str} {kvs : List (Str × PyData)} {i : Expr} {ii : Ex} {np : Pos} (hg : Gl X x) (hd : DicAt X.w.params X.K X.mg x kvs) (hi : PE X i (tE X.K C ii)) (hs : NoSl i) (hdb : (x == ("__debug__" : Str)) = false) :
    PE X (.Subscript (.Name x np) i pos) (tE X.K C (.dlk kvs ii)) := by
  obtain ⟨a, o, es, ep, hm, hl, hx, hdt, hes⟩ := hd
  refine ⟨fun pins s σ H Q I ⟨L, m, r, st, w, st', he, hst, h, q⟩ => ?_⟩
  simp only [ev, Option.bind_eq_some_iff, Prod.exists] at h
  obtain ⟨y, s1, h1, h2⟩ := h
  split at h2
  · rename_i z
    simp only [Option.map_eq_some_iff] at h2
    obtain ⟨d, h2, h3⟩ := h2
    cases h3
    refine subD_of PySem.F.slot_dict_getitem.lookup hs (ld_glob I hg hm (thn (hi.run pins s σ H (fun y H2 => y = .str z ∧ ∀ v, (∀ H L, Rep X.K H L v d) → Q v H2) I ⟨L, m, r, st, .val (.str z), _, he, hst, h1, fun v1 H1 L1 m1 e1 k1 r1 => ?_⟩) fun iv s2 ⟨y, H2, I2, ry, ey, q2⟩ => ?_) hdb)
    · cases r1 with | val r1 =>
      cases r1
      exact ⟨rfl, fun v rep => q v H1 L1 m1 e1 k1 (.val (rep _ _))⟩
    subst ey
    obtain ⟨t, rfl⟩ := ry
    have hk := I2.kIn a o hl
    obtain ⟨e, he1, v, rv, rep⟩ := dicEs_find hes h2
    have mo : s2.heap.MapOf (PySem.strKind X.prog X.w) a (fun k => findBy (PySem.strKind X.prog X.w).is es k) := ⟨o, es, ep, hk, hx, hdt, fun e he => by
      obtain ⟨k, t, e1, e2⟩ := dicEs_key hes e (by simpa using he)
      exact ⟨k, by rw [e1]; simp [PySem.strKind, Value.isStrOf], e2⟩, fun _ => rfl⟩
    refine ⟨mo.typeIs, wpAny_getItem_of (knd := strKind X.prog X.w) (k := z) (by simp [PySem.strKind, Value.isStrOf]) mo (v := e.val) ?_ ⟨v, H2, I2.tok _, rv, q2 v rep⟩⟩
    show findBy (PySem.strKind X.prog X.w).is es z = some e.val
    unfold findBy
    have : es.find? (fun e => (PySem.strKind X.prog X.w).is z e.key) = some e := by
      rw [← Array.find?_toList]; exact he1
    rw [this]; rfl
  · cases h2
/-- a display of texts and whole numbers -/
def dispE : List (Option Expr) → List Expr → Option (List (Str × Int))
  | [], [] => some []
  | some (.Constant (.str x) _ _) :: ks, .Constant (.int i) _ _ :: vs => (dispE ks vs).map ((x, i) :: ·)
  | _, _ => none
def trsOf : List (Str × Int) → List (TE × TE)
  | [] => []
  | (x, i) :: r => (tC (.str x), tC (.int i)) :: trsOf r
def kvV (kvs : List (Str × Int)) : List (Key × V) := kvs.map fun kv => (.inr kv.1, .int kv.2)
theorem dispE_ok : ∀ {ks : List (Option Expr)} {vs : List Expr} {kvs : List (Str × Int)}, dispE ks vs = some kvs → PPs X pos ks vs (trsOf kvs) ∧ ks.all (·.isSome) = true ∧ ks.length = vs.length ∧ ks.length = kvs.length
  | [], [], kvs, h => by cases h; exact ⟨pps_nil, rfl, rfl, rfl⟩
  | [], _ :: _, _, h => by simp [dispE] at h
  | k :: ks, vs, kvs, h => by
    unfold dispE at h
    split at h
    · rename_i q; cases q
    · rename_i x j p ks' i j' p' vs' q
      cases q
      obtain ⟨r, h1, rfl⟩ := Option.map_eq_some_iff.mp h
      obtain ⟨q1, q2, q3, q4⟩ := dispE_ok h1
      exact ⟨pps_cons pe_str pe_int q1, by rw [List.all_cons, q2]; rfl, by rw [List.length_cons, List.length_cons, q3], by rw [List.length_cons, List.length_cons, q4]⟩
    · cases h
theorem trs_run : ∀ {kvs : List (Str × Int)} {σ : L2.St} {H : Hp} {Q : List (V × V) → Hp → Prop}, Q ((kvV kvs).map fun kv => (kV kv.1, kv.2)) H → tPairs (trsOf kvs) σ H Q
  | [], _, _, _, h => h
  | (x, i) :: r, σ, H, Q, h => by
    show tPairs (trsOf r) σ H fun ps H3 => Q ((.str x, .int i) :: ps) H3
    exact trs_run (kvs := r) h
theorem mergeK_new : ∀ {more acc : List (Key × V)}, (∀ p ∈ more, ∀ q ∈ acc, q.1 ≠ p.1) → (more.map (·.1)).Nodup → mergeK acc more = acc ++ more
  | [], acc, _, _ => by simp [mergeK]
  | p :: more, acc, h, nd => by
    rw [List.map_cons, List.nodup_cons] at nd
    have e : putK acc p.1 p.2 = acc ++ [p] := by
      unfold putK
      rw [if_neg]
      rw [List.any_eq_true]
      rintro ⟨q, hq, hd⟩
      exact h p (List.mem_cons_self ..) q hq (by simpa using hd)
    show mergeK (putK acc p.1 p.2) more = _
    rw [e, mergeK_new (fun p' hp' q hq => ?_) nd.2, List.append_assoc]
    · rfl
    · rcases List.mem_append.mp hq with hq | hq
      · exact h p' (List.mem_cons_of_mem _ hp') q hq
      · rw [List.mem_singleton.mp hq]
        intro z
        exact nd.1 (by rw [z]; exact List.mem_map_of_mem hp')
theorem valV_kv {z : Str} : ∀ {kvs : List (Str × Int)} {i : Int}, kvs.lookup z = some i → valV (kvV kvs) (Sum.inr z) = some (V.int i)
  | [], _, h => by cases h
  | (x, j) :: r, i, h => by
    rw [List.lookup_cons] at h
    show valV ((Sum.inr x, V.int j) :: kvV r) (Sum.inr z) = _
    split at h
    · rename_i hb
      cases h
      have : z = x := LawfulBEq.eq_of_beq hb
      subst this
      exact valV_pos rfl
    · rename_i hb
      rw [valV_neg (by
        intro q
        have : x = z := by injection q
        rw [this] at hb
        simp at hb)]
      exact valV_kv h
def litI (kvs : List (Str × Int)) : List (Str × PyData) := kvs.map fun kv => (kv.1, .int kv.2)
theorem litI_lookup {z : Str} {d : PyData} : ∀ {kvs : List (Str × Int)}, (litI kvs).lookup z = some d → ∃ i, kvs.lookup z = some i ∧ d = .int i
  | [], h => by cases h
  | (x, j) :: r, h => by
    unfold litI at h
    rw [List.map_cons, List.lookup_cons] at h
    rw [List.lookup_cons]
    split at h
    · rename_i hb
      cases h
      rw [hb]
      exact ⟨j, rfl, rfl⟩
    · rename_i hb
      rw [hb]
      exact litI_lookup h
/-- {"a": 1, ..}[e] -/
theorem s_dlkD {keys : List (Option Expr)} {vals : List Expr} {kvs : List (Str × Int)} {i : Expr} {ii : Ex} {dp : Pos} (hu : X.A.units + 1 < cLine) (hd : dispE keys vals = some kvs) (h0 : kvs ≠ []) (h15 : kvs.length ≤ 15) (hn : (kvs.map (·.1)).Nodup) (hi : PE X i (tE X.K C ii)) (hs : NoSl i) :
    PE X (.Subscript (.Dict keys vals dp) i pos) (tE X.K C (.dlk (litI kvs) ii)) := by
  obtain ⟨q1, q2, q3, q4⟩ := dispE_ok (X := X) (pos := dp) hd
  have k0 : keys ≠ [] := by
    intro z
    rw [z] at q4
    exact h0 (List.length_eq_zero_iff.mp q4.symm)
  refine (pe_dget hu (pe_disp q1 q2 q3 k0 (by rw [q4]; exact h15)) hi hs).weak fun σ H Q ⟨L, m, r, st, w, st', he, hst, h, q⟩ => ?_
  simp only [ev, Option.bind_eq_some_iff, Prod.exists] at h
  obtain ⟨y, s1, h1, h2⟩ := h
  intro p hp
  refine trs_run ⟨upd_same, kvV kvs, rfl, by unfold kvV; rw [List.length_map]; exact h15, ?_⟩
  rw [L2.upd_upd]
  have hmk : mergeK [] (kvV kvs) = kvV kvs := by
    rw [mergeK_new (by simp) (by
      unfold kvV
      rw [List.map_map]
      have : ((fun x : Key × V => x.1) ∘ fun kv : Str × Int => ((Sum.inr kv.1 : Key), V.int kv.2)) = fun kv => Sum.inr kv.1 := rfl
      rw [this]
      have h2 : (kvs.map fun kv => (Sum.inr kv.1 : Key)) = (kvs.map (·.1)).map Sum.inr := by rw [List.map_map]; rfl
      rw [h2]
      exact List.Pairwise.map _ (fun a b h z => h (by injection z)) hn)]
    rfl
  rw [hmk]
  split at h2
  · rename_i z
    simp only [Option.map_eq_some_iff] at h2
    obtain ⟨d, h2, h3⟩ := h2
    cases h3
    refine ⟨L, m, r, st, .val (.str z), _, he.mono (ext_upd hst.trk hp), hst.upd hp, h1, fun v1 H1 L1 m1 e1 k1 r1 => ?_⟩
    cases r1 with | val r1 =>
    cases r1
    obtain ⟨i, hi, rfl⟩ := litI_lookup h2
    have hp1 : H1 p = some (.dK (kvV kvs)) := (e1.keep p _ upd_same (hst.new hp)).1
    have g := DGet.k (k := Sum.inr z) hp1
    rw [valV_kv hi] at g
    exact ⟨p, .int i, rfl, g, q _ H1 L1 m1 ((ext_upd hst.trk hp).trans e1) k1 (.val (.int i))⟩
  · cases h2

/-! ### list(reversed(e)); max(e, default=d) -/
theorem s_lrev {ia : Ex} {a : Expr} {p2 pos2 : Pos} (hc : X.calm = true) (hg : Gl X "list") (hm : X.mg "list" = none) (hg2 : Gl X "reversed") (hm2 : X.mg "reversed" = none) (ha : PE X a (tE X.K C ia)) (hs : starEach [a] X.env = (false, eval a X.env) :: starEach [] X.env) :
    PE X (.Call (.Name "list" p) [.Call (.Name "reversed" p2) [a] [] pos2] [] pos) (tE X.K C (.blt .rev1 (.cons ia .nil))) :=
  (pe_lstRev hc hg hm hg2 hm2 ha hs).weak fun σ H Q ⟨L, m, r, st, w, st', he, hs, h, q⟩ => by
    simp only [ev, evs, Option.bind_eq_some_iff, Option.map_eq_some_iff, Prod.exists] at h
    obtain ⟨ws, s1, ⟨x, s0, h1, ws', s2, h2, h3⟩, ds, h4, d, h5, h6⟩ := h
    cases h2
    cases h3
    cases h6
    simp only [looks, Option.bind_eq_some_iff] at h4
    obtain ⟨dx, h4, ds', h7, h8⟩ := h4
    cases h7
    cases h8
    refine ⟨L, m, r, st, x, _, he, hs, h1, fun v1 H1 L1 m1 e1 k1 r1 => ?_⟩
    have g1 := r1.lookR k1 h4
    cases dx <;> simp only [bltD, reduceCtorEq] at h5
    cases h5
    obtain ⟨p, xs, rfl, q1, q2, q3⟩ := g1.toLst
    exact ⟨p, xs, rfl, q1, fun z hz => q.grown e1 k1 (.new hz) (.lst upd_same (k1.new hz) (by rw [List.length_reverse]; exact q2) ((RepA.reverse q3).gr (.new hz)))⟩
theorem seqD_ok {K : PySem.W.Frag} {H : Hp} {L : Ad} {v : V} {d : PyData} {ds : List PyData} (h : RepR K H L v d) (e : seqD d = some ds) : ∃ (k : Kd) (a : Addr) (vs : List V), flatK k = true ∧ v = .ref a ∧ SqK k K H a vs ∧ vs.length ≤ sizeLine ∧ RepA K H L vs ds := by
  unfold seqD at e
  split at e
  · cases e
    obtain ⟨a, vs, h1, h2, h3, h4⟩ := h.toLst
    exact ⟨.lst, a, vs, rfl, h1, h2, h3, h4⟩
  · cases e
    obtain ⟨a, vs, h1, h2, h3, h4⟩ := h.toTup
    exact ⟨.tup, a, vs, rfl, h1, h2, h3, h4⟩
  · cases e
theorem s_tupZ {p2 pos2 : Pos} {e2 : Expr} (hc : X.calm = true) (hg : Gl X "tuple") (hm : X.mg "tuple" = none) (hg2 : Gl X "zip") (hm2 : X.mg "zip" = none) (ha : PA X [e, e2] (tA X.K C ies))
    (hs : starEach [e, e2] X.env = (false, eval e X.env) :: starEach [e2] X.env) (hpl : (backTo pos2 (starEach [e2] X.env)).any (·.1) = false) :
    PE X (.Call (.Name "tuple" p) [.Call (.Name "zip" p2) [e, e2] [] pos2] [] pos) (tE X.K C (.blt .tupZ ies)) :=
  (pe_tupZip hc hg hm hg2 hm2 ha hs hpl).weak fun σ H Q ⟨L, m, r, st, w, st', he, hs, h, q⟩ => by
    simp only [ev, Option.bind_eq_some_iff, Option.map_eq_some_iff, Prod.exists] at h
    obtain ⟨ws, s1, h1, ds, h2, d, h3, h4⟩ := h
    cases h4
    refine ⟨L, m, r, st, ws, _, he, hs, h1, fun vs H1 L1 m1 e1 k1 r1 => ?_⟩
    have rr := looks_ok k1 r1 h2
    obtain ⟨dx, dy, rfl, h5⟩ : ∃ dx dy, ds = [dx, dy] ∧ zipT dx dy = some d := by
      unfold bltD at h3
      split at h3
      all_goals first | (exfalso; simp_all; done) | skip
      exact ⟨_, _, rfl, h3⟩
    obtain ⟨v, v', rfl, rx, ry⟩ := two_of rr
    simp only [zipT, Option.bind_eq_some_iff, Option.map_eq_some_iff] at h5
    obtain ⟨xs, gx, ys, gy, rfl⟩ := h5
    obtain ⟨k, a, us, f1, rfl, q1, q2, q3⟩ := seqD_ok rx gx
    obtain ⟨k', b, us2, f2, rfl, q4, q5, q6⟩ := seqD_ok ry gy
    refine ⟨k, k', a, b, us, us2, f1, f2, rfl, q1, q4, Nat.le_trans (Nat.min_le_left _ _) q2, fun S H2 ps g hn hl hp => ?_⟩
    have gr : Gr H1 H2 := g
    have rep : RepA X.K H2 L1 ps (List.zipWith (fun u v => PyData.tuple [u, v]) xs ys) := by
      refine repA_of ?_ fun j p e => ?_
      · rw [hl, List.length_zipWith, q3.length, q6.length]
      · obtain ⟨T, x, y, rfl, hT, hT2, ex, ey⟩ := hp j p e
        have hjx : j < xs.length := by rw [← q3.length]; exact (List.getElem?_eq_some_iff.mp ex).1
        have hjy : j < ys.length := by rw [← q6.length]; exact (List.getElem?_eq_some_iff.mp ey).1
        obtain ⟨x', ex', rx'⟩ := q3.get (List.getElem?_eq_getElem hjx)
        obtain ⟨y', ey', ry'⟩ := q6.get (List.getElem?_eq_getElem hjy)
        rw [ex] at ex'
        rw [ey] at ey'
        cases ex'
        cases ey'
        refine ⟨.tuple [xs[j], ys[j]], ?_, .tup (.inl ⟨hT2, fun l => k1.trk T l hT⟩) (by show 2 ≤ sizeLine; decide) (.cons (rx'.gr gr) (.cons (ry'.gr gr) .nil))⟩
        rw [List.getElem?_zipWith, List.getElem?_eq_getElem hjx, List.getElem?_eq_getElem hjy]
    have hS1 : H1 S = none := by
      cases hh : H1 S with
      | none => rfl
      | some o => rw [g S o hh] at hn; cases hn
    have gr2 : Gr H1 (upd H2 S (.tup ps)) := fun c o e => by
      rw [upd_ne (ne_of_none (g c o e) hn)]
      exact g c o e
    exact q.grown e1 k1 gr2 (.tup (.inl ⟨upd_same, fun l => k1.trk S l hS1⟩) (by rw [hl]; exact Nat.le_trans (Nat.min_le_left _ _) q2) (rep.gr (.new hn)))
theorem s_maxd {ia id : Ex} {a d : Expr} {kp : Pos} (hc : X.calm = true) (hg : Gl X "max") (hm : X.mg "max" = none) (ha : PE X a (tE X.K C ia)) (hd : PE X d (tE X.K C id)) (hs : starEach [a] X.env = (false, eval a X.env) :: starEach [] X.env) :
    PE X (.Call (.Name "max" p) [a] [⟨some (Str.ofString "default"), d, kp⟩] pos) (tE X.K C (.blt .maxd (.cons ia (.cons id .nil)))) := by
  refine (pe_callBK (cr_maxDef hc) hg hm (by decide +kernel) (pa_cons ha pa_nil hs) (pk_cons hd pk_nil) (by decide) (by decide) (by rw [hs]; rfl) (by rw [hs]; rfl) rfl rfl rfl).weak fun σ H Q ⟨L, m, r, s0, w, s', he, hst, h, q⟩ => ?_
  simp only [ev, evs, Option.bind_eq_some_iff, Option.map_eq_some_iff, Prod.exists] at h
  obtain ⟨ws, s1, ⟨x, s2, h1, ws', s3, ⟨y, s4, h2, ws2, s5, h3, h4⟩, h5⟩, ds, h6, d, h7, h8⟩ := h
  cases h3
  cases h4
  cases h5
  cases h8
  simp only [looks, Option.bind_eq_some_iff] at h6
  obtain ⟨dx, h6, ds', ⟨dy, h9, ds2, h10, h11⟩, h12⟩ := h6
  cases h10
  cases h11
  cases h12
  refine ⟨L, m, r, s0, x, _, he, hst, h1, fun v1 H1 L1 m1 e1 k1 r1 => ⟨L1, m1, r, s2, y, _, he.mono e1, k1, h2, fun v2 H2 L2 m2 e2 k2 r2 => ?_⟩⟩
  have g1 := (r1.mono e2).lookR k2 h6
  have g2 := r2.lookR k2 h9
  cases dx <;> cases dy <;> simp only [bltD, reduceCtorEq] at h7
  obtain ⟨ns, h13, h14⟩ := Option.map_eq_some_iff.mp h7
  obtain ⟨a0, xs, rfl, q1, q2, q3⟩ := g1.toLst
  obtain rfl := g2.toInt
  have hb := intsD_ok q3 h13
  subst hb
  cases h14
  refine ⟨a0, ns, _, rfl, rfl, q1, fun h0 => ?_, fun m hm hle => ?_⟩
  · subst h0
    exact q _ H2 L2 m2 (e1.trans e2) k2 (.val (.int _))
  · cases ns with
    | nil => cases hm
    | cons n ns =>
      obtain ⟨g1, g2⟩ := foldl_max ns n
      have : m = ns.foldl max n := Int.le_antisymm (g2 m hm) (hle _ g1)
      rw [this]
      exact q _ H2 L2 m2 (e1.trans e2) k2 (.val (.int _))

/-! ### methods of lists -/
/-- a live list is written -/
theorem st_put {K : PySem.W.Frag} {H : Hp} {L : Ad} {m : List Addr} {st : Mem} (s : StOk K H L m st) {n : Nat} {a : Addr} {ds ds' : List PyData} {vs : List V} (h : st[n]? = some (true, ds)) (hm : m[n]? = some a) (hml : ∃ vs, H a = some (.lst vs)) (r : RepA K H L vs ds') (hz : vs.length ≤ sizeLine) :
    StOk K (upd H a (.lst vs)) L m (st.set n (true, ds')) ∧ Ext H L m (upd H a (.lst vs)) L m := by
  have am : a ∈ m := List.mem_of_getElem? hm
  obtain ⟨vs0, q1, q2, q3, q4, q5⟩ := s.cellL n _ a h hm hml
  have la : L a := q4 rfl
  have kp : ∀ b o, H b = some o → ¬ L b → upd H a (.lst vs) b = some o ∧ ¬ L b := fun b o q z => ⟨by rw [upd_ne (show b ≠ a from fun e => z (by rw [e]; exact la))]; exact q, z⟩
  have hn : n < st.length := (List.getElem?_eq_some_iff.mp h).1
  refine ⟨⟨by rw [List.length_set]; exact s.len, s.nd, fun b l => ?_, fun k c b g1 g2 => ?_⟩, ⟨kp, fun b l hb _ => ⟨l, by rw [upd_ne (show b ≠ a from fun e => hb (by rw [e]; exact am))]⟩, ⟨[], by simp, by simp⟩, fun b o z => ?_⟩⟩
  · by_cases e : b = a
    · subst e; rw [upd_same]; simp
    · rw [upd_ne e]; exact s.trk b l
  · by_cases hk : n = k
    · subst hk
      rw [List.getElem?_set_self hn] at g1
      cases g1
      rw [hm] at g2
      cases g2
      exact .inl ⟨vs, upd_same, hz, RepA.mono kp _ _ r, fun _ => la, fun z => by cases z⟩
    · rw [List.getElem?_set_ne hk] at g1
      have hne : b ≠ a := fun z => hk ((List.getElem?_inj (List.getElem?_eq_some_iff.mp hm).1 s.nd).mp (by rw [hm, g2, z]))
      exact (s.cell k c b g1 g2).mono kp (upd_ne hne) id id
  · by_cases e : b = a
    · subst e; rw [q1] at z; cases z; exact ⟨_, upd_same, rfl⟩
    · exact ⟨o, by rw [upd_ne e]; exact z, rfl⟩
end
end Sk

/-! Sk6: methods of lists, what is walked, comprehensions -/
namespace Sk
open PySem PySem.Spec PyProof.Rows L2

def rM (K : PySem.W.Frag) (o : Mt) : V → List V → Hp → VK → Prop := fun x vs H Q => ∃ (L : Ad) (m : List Addr) (st : Mem) (a : Addr) (n : Nat) (ws : List W) (ds ds' : List PyData) (s3 : Mem) (c : List PyData), StOk K H L m st ∧ x = .ref a ∧ (m[n]? = some a ∧ ∃ xs, H a = some (.lst xs)) ∧ RepWs K H L m vs ws ∧ st[n]? = some (true, ds) ∧
  mtD o ds ws st = some (ds', s3) ∧ s3[n]? = some (true, c) ∧ ∀ H' L', Ext H L m H' L' m → StOk K H' L' m (s3.set n (true, ds')) → ∀ y, Rep K H' L' y (mtV o ds) → Q y H'
section
variable {X : Cx} {C : CallF} {pos p : Pos} {e a : Expr} {es : List Expr} {ia : Ex} {ies : Exs}
theorem s_mt {o : Mt} {t : TE} (h : PE X e t) (ht : ∀ σ H Q, tBM X.K "list" (rM X.K o) (tE X.K C ia) (tA X.K C ies) σ H Q → t σ H Q) : PE X e (tE X.K C (.mt o ia ies)) :=
  h.weak fun σ H Q ⟨L, m, r, st, w, st', he, hs, h, q⟩ => by
    simp only [ev, Option.bind_eq_some_iff, Prod.exists] at h
    obtain ⟨x, s1, h1, ws, s2, h2, h3⟩ := h
    split at h3
    · rename_i n
      split at h3
      · rename_i ds hn
        simp only [Option.bind_eq_some_iff, Prod.exists] at h3
        obtain ⟨ds', s3, h4, h5⟩ := h3
        split at h5
        · rename_i c hc
          cases h5
          refine ht σ H Q ⟨L, m, r, st, _, s1, he, hs, h1, fun v1 H1 L1 m1 e1 k1 r1 => ?_⟩
          cases r1 with | @loc a0 _ r1 rl =>
          have hl : n < s1.length := by rw [← k1.len]; exact (List.getElem?_eq_some_iff.mp r1).1
          obtain ⟨vs, q1, q2, q3, _⟩ := k1.cellL n s1[n] a0 (List.getElem?_eq_getElem hl) r1 rl
          refine ⟨.inl ⟨rfl, vs, .of q1⟩, L1, m1, r, s1, ws, s2, he.mono e1, k1, h2, fun vs2 H2 Lb m2 e2 k2 r2 => ?_⟩
          refine ⟨Lb, m2, s2, a0, n, ws, ds, ds', s3, c, k2, rfl, ⟨e2.get r1, e2.lst rl⟩, r2, hn, h4, hc, fun H3 L3 e3 k3 y3 r3 => ?_⟩
          exact q _ H3 L3 m2 ((e1.trans e2).trans e3) k3 (.val r3)
        · cases h5
      · cases h3
    · cases h3
theorem s_mt0 {o : Mt} {t : TE} (h : PE X e t) (ht : ∀ σ H Q, tBM0 X.K "list" (rM X.K o) (tE X.K C ia) σ H Q → t σ H Q) : PE X e (tE X.K C (.mt o ia .nil)) :=
  h.weak fun σ H Q ⟨L, m, r, st, w, st', he, hs, h, q⟩ => by
    simp only [ev, Option.bind_eq_some_iff, Prod.exists] at h
    obtain ⟨x, s1, h1, ws, s2, h2, h3⟩ := h
    simp only [evs, Option.some.injEq, Prod.mk.injEq] at h2
    obtain ⟨rfl, rfl⟩ := h2
    split at h3
    · rename_i n
      split at h3
      · rename_i ds hn
        simp only [Option.bind_eq_some_iff, Prod.exists] at h3
        obtain ⟨ds', s3, h4, h5⟩ := h3
        split at h5
        · rename_i c hc
          cases h5
          refine ht σ H Q ⟨L, m, r, st, _, s1, he, hs, h1, fun v1 H1 L1 m1 e1 k1 r1 => ?_⟩
          cases r1 with | @loc a0 _ r1 rl =>
          have hl : n < s1.length := by rw [← k1.len]; exact (List.getElem?_eq_some_iff.mp r1).1
          obtain ⟨vs, q1, q2, q3, _⟩ := k1.cellL n s1[n] a0 (List.getElem?_eq_getElem hl) r1 rl
          refine ⟨.inl ⟨rfl, vs, .of q1⟩, ?_⟩
          refine ⟨L1, m1, s1, a0, n, [], ds, ds', s3, c, k1, rfl, ⟨r1, rl⟩, .nil, hn, h4, hc, fun H3 L3 e3 k3 y3 r3 => ?_⟩
          exact q _ H3 L3 m1 (e1.trans e3) k3 (.val r3)
        · cases h5
      · cases h3
    · cases h3
theorem m_app : MtM X "list.append" (rM X.K .app) := by
  intro pins s σ H x vs v us Q I rx rv h
  obtain ⟨L, m, st, a, n, ws, ds, ds', s3, c, k, rfl, ⟨hm, hml⟩, rws, hn, hd, hc, q⟩ := h
  cases rws with
  | nil => simp [mtD] at hd
  | cons r1 r2 =>
    cases r2 with
    | cons _ _ => simp [mtD] at hd
    | nil =>
      simp only [mtD, Option.bind_eq_some_iff, Prod.exists] at hd
      obtain ⟨d, s1, e1, e2⟩ := hd
      split at e2
      · rename_i hlt
        cases e2
        obtain ⟨L1, k1, rd, x1⟩ := frz_ok k r1 e1
        obtain ⟨vs0, q1, q2, q3, _⟩ := k.cellL n _ a hn hm hml
        have q3 : RepA X.K H L vs0 ds := q3
        have hz : vs0.length < sizeLine := by rw [q3.length]; exact line_lt hlt
        have r3 := (RepA.mono x1.keep _ _ q3).append (.one rd)
        obtain ⟨k2, x2⟩ := st_put k1 hc hm hml r3 (by rw [List.length_append]; exact hz)
        exact mt_append pins s σ H _ _ v us Q I rx rv ⟨a, vs0, _, rfl, rfl, q1, hz, q _ L1 (x1.trans x2) k2 .non .non⟩
      · cases e2
theorem m_ins : MtM X "list.insert" (rM X.K .ins) := by
  intro pins s σ H x vs v us Q I rx rv h
  obtain ⟨L, m, st, a, n, ws, ds, ds', s3, c, k, rfl, ⟨hm, hml⟩, rws, hn, hd, hc, q⟩ := h
  unfold mtD at hd
  split at hd
  · exact absurd ‹Mt.ins = Mt.app› (by simp)
  · exact absurd ‹Mt.ins = Mt.ext› (by simp)
  · rename_i ds st _ _ _ _ i w _
    cases rws with | cons r0 r1 =>
    cases r1 with | cons r1 r2 =>
    cases r2
    cases r0 with | val r0 =>
    cases r0
    simp only [Option.bind_eq_some_iff, Prod.exists] at hd
    obtain ⟨d, s1, e1, e2⟩ := hd
    split at e2
    · rename_i hlt
      cases e2
      obtain ⟨L1, k1, rd, x1⟩ := frz_ok k r1 e1
      obtain ⟨vs0, q1, q2, q3, _⟩ := k.cellL n _ a hn hm hml
      have q3 : RepA X.K H L vs0 ds := q3
      have hz : vs0.length < sizeLine := by rw [q3.length]; exact line_lt hlt.2.2
      have q4 := RepA.mono x1.keep _ _ q3
      have r3 := ((q4.take i.toNat).append (.one rd)).append (q4.drop i.toNat)
      obtain ⟨k2, x2⟩ := st_put k1 hc hm hml r3 (by simp only [List.length_append, List.length_take, List.length_drop, List.length_cons, List.length_nil]; omega)
      exact mt_insert pins s σ H _ _ v us Q I rx rv ⟨a, vs0, i, _, rfl, rfl, q1, hz, hlt.1, hlt.2.1, q _ L1 (x1.trans x2) k2 .non .non⟩
    · cases e2
  · exact absurd ‹Mt.ins = Mt.pop› (by simp)
  · cases hd
/-- what a list takes from a tuple, whoever wrote it -/
theorem more_of_tuple (l b : Addr) (mine theirs : Array Value) (c : Nat) (small : mine.size + theirs.size ≤ sizeLine) :
    Meets (Builtin.«list.extend» ⟨[.ref l, .ref b], []⟩) (fun _ R s => s.heap.get? l = some { cls := .type "list", dict := none, data := .seq mine c, slots := #[] } ∧ IsTup s.heap b theirs ∧
      R (.ok (.ret Value.none)) { s with heap := s.heap.update l (Obj.mapSeq fun x => x ++ theirs) }) := by
  refine .of_wp fun prog w A R s h => ?_
  obtain ⟨hl, ⟨o, ho, hc, nb, hd⟩, h⟩ := h
  have long : (!mine.isEmpty && Builtin.List.listTooLong (mine.size + theirs.size)) = false := by
    rw [notLongL small, Bool.and_false]
  show wpAny (model prog w) A.in1 (Builtin.List.listExtendWith (.ref l) (.ref b) .none) _ _ s
  unfold Builtin.List.listExtendWith
  refine wpAny_bind (wpAny_typeOf ⟨o, ho, hc⟩ ?_)
  have pick : (Builtin.List.listSameRef (.ref l) (.ref b) || Value.type "tuple" == Value.type "list" || Value.type "tuple" == Value.type "tuple") = true := by simp
  simp only [pick, if_true]
  unfold Builtin.List.listItems
  refine wpAny_bind (wpAny_bind (wpAny_seqItems ho hd (wpAny_pure ?_)))
  refine wpAny_bind (wpAny_bind (wpAny_seqItems hl rfl (wpAny_pure ?_)))
  simp only [long]
  show wpAny _ _ (updateSeq l (fun x => x ++ theirs) >>= fun _ => _) _ _ _
  refine wpAny_bind (wpAny_updateSeq hl rfl (hz := by omega) (_hz' := by rw [Array.size_append]; omega) ?_)
  exact wpAny_pure ⟨_, rfl, h⟩
def rExtT (K : PySem.W.Frag) : V → List V → Hp → VK → Prop := fun x vs H Q => ∃ l b xs zs, x = .ref l ∧ vs = [.ref b] ∧ H l = some (.lst xs) ∧ SqT K H b zs ∧ xs.length + zs.length ≤ sizeLine ∧ Q .non (upd H l (.lst (xs ++ zs)))
theorem mt_extT : MtM X "list.extend" (rExtT X.K) := by
  intro pins s σ H x vs v us Q I rx rv h
  obtain ⟨l, b, xs, zs, rfl, rfl, hH, hB, hz, q⟩ := h
  cases rx
  obtain ⟨u, rfl, ru⟩ := rv.one
  cases ru
  obtain ⟨z, its, n, r, hl, e⟩ := I.lstM hH
  obtain ⟨its2, r2, e2, _⟩ := I.tuple hB
  have l2 := r2.length
  refine call_meets F.slot_list_extend ⟨_, e, rfl⟩ F.entry_list_extend (F.args_list_extend_2 _ _) (more_of_tuple l b its.toArray its2.toArray n (by rw [List.size_toArray, List.size_toArray]; omega)) ⟨e, e2, ?_⟩
  refine ⟨.non, _, I.lset (its' := its ++ its2) hH e (by simp) (r.append r2) ?_, rfl, q⟩
  rw [List.length_append]
  omega
theorem m_ext : MtM X "list.extend" (rM X.K .ext) := by
  intro pins s σ H x vs v us Q I rx rv h
  obtain ⟨L, m, st, a, n, ws, ds, ds', s3, c, k, rfl, ⟨hm, hml⟩, rws, hn, hd, hc, q⟩ := h
  cases rws with
  | nil => simp [mtD] at hd
  | cons r1 r2 =>
    cases r2 with
    | cons _ _ => simp [mtD] at hd
    | nil =>
      simp only [mtD] at hd
      split at hd
      · rename_i es he
        split at hd
        · rename_i hlt
          cases hd
          obtain ⟨b, ys, rfl, g1, g2, g3⟩ := (r1.lk k he).toList
          obtain ⟨vs0, q1, q2, q3, _⟩ := k.cellL n _ a hn hm hml
          have q3 : RepA X.K H L vs0 ds := q3
          have hz : vs0.length + ys.length ≤ sizeLine := by rw [q3.length, g3.length]; exact Nat.le_trans hlt line_le
          obtain ⟨k2, x2⟩ := st_put k hc hm hml (q3.append g3) (by rw [List.length_append]; exact hz)
          exact mt_extend pins s σ H _ _ v us Q I rx rv ⟨a, b, vs0, ys, rfl, rfl, q1, g1, hz, q _ L x2 k2 .non .non⟩
        · cases hd
      · rename_i es he
        split at hd
        · rename_i hlt
          cases hd
          obtain ⟨b, ys, rfl, g1, g2, g3⟩ := (r1.lk k he).toTup
          obtain ⟨vs0, q1, q2, q3, _⟩ := k.cellL n _ a hn hm hml
          have q3 : RepA X.K H L vs0 ds := q3
          have hz : vs0.length + ys.length ≤ sizeLine := by rw [q3.length, g3.length]; exact Nat.le_trans hlt line_le
          obtain ⟨k2, x2⟩ := st_put k hc hm hml (q3.append g3) (by rw [List.length_append]; exact hz)
          exact mt_extT pins s σ H _ _ v us Q I rx rv ⟨a, b, vs0, ys, rfl, rfl, q1, g1, hz, q _ L x2 k2 .non .non⟩
        · cases hd
      · cases hd
theorem m_pop : MtM X "list.pop" (rM X.K .pop) := by
  intro pins s σ H x vs v us Q I rx rv h
  obtain ⟨L, m, st, a, n, ws, ds, ds', s3, c, k, rfl, ⟨hm, hml⟩, rws, hn, hd, hc, q⟩ := h
  cases rws with
  | cons r1 r2 => simp [mtD] at hd
  | nil =>
    simp only [mtD] at hd
    split at hd
    · cases hd
    · rename_i hne
      cases hd
      obtain ⟨vs0, q1, q2, q3, _⟩ := k.cellL n _ a hn hm hml
      have q3 : RepA X.K H L vs0 ds := q3
      have hlen := q3.length
      have hpos : 0 < ds.length := by
        cases ds with
        | nil => simp at hne
        | cons d ds => simp
      have q4 : RepA X.K H L vs0.dropLast ds.dropLast := by
        rw [List.dropLast_eq_take, List.dropLast_eq_take, hlen]
        exact q3.take _
      obtain ⟨k2, x2⟩ := st_put k hc hm hml q4 (by rw [List.length_dropLast]; omega)
      obtain ⟨y, hy1, hy2⟩ := q3.get (i := ds.length - 1) (d := ds.getLastD .none) (by
        rw [List.getLastD_eq_getLast?, List.getLast?_eq_getElem?, List.getElem?_eq_getElem (show ds.length - 1 < ds.length by omega)]
        rfl)
      exact mt_pop pins s σ H _ _ v us Q I rx rv ⟨a, vs0, y, rfl, rfl, q1, by rw [hlen]; exact hy1, q _ L x2 k2 y (Rep.mono x2.keep _ _ hy2)⟩

/-! ### what is walked -/
structure WalkD (K : PySem.W.Frag) (J : It) (xs : List PyData) (Z : Hp → Ad → Prop) : Prop where
  goes : ∀ i H L, i < xs.length → Z H L → J.go i H
  stops : ∀ H L, Z H L → J.stop xs.length H
  yields : ∀ i H L x H', i < xs.length → Z H L → J.yld i H x H' → Gr H H' ∧ ∃ d, xs[i]? = some d ∧ Rep K H' L x d
/-- an iterable: the walk goes on in each later state in which the places it reads stay -/
def tI (K : PySem.W.Frag) (C : CallF) (it : Itx) : TI := fun σ H R => ∃ L m r st xs ls s0, EnvOk K H L m r σ ∧ StOk K H L m st ∧ evI C it r st = some (xs, ls, s0) ∧
  ∀ J H1 L1 m1, Ext H L m H1 L1 m1 → StOk K H1 L1 m1 s0 → xs.length ≤ sizeLine → (∃ Z, WalkD K J xs Z ∧ ∀ H2 L2 m2 st2, Ext H1 L1 m1 H2 L2 m2 → StOk K H2 L2 m2 st2 → Stay ls s0 st2 → Z H2 L2) → R J H1
theorem _root_.L2.PI.weak {tg it : Expr} {t t' : TI} (h : PI X tg it t) (w : ∀ σ H R, t' σ H R → t σ H R) : PI X tg it t' := ⟨fun pins s σ H R I q => h.run pins s σ H R I (w σ H R q)⟩
end
section
variable {K : PySem.W.Frag} {H H1 H2 : Hp} {L L1 Lb : Ad} {m m1 m2 : List Addr} {st st2 : Mem} {v : V} {w : W}
/-- data read again later -/
theorem again {ls : List Nat} (e : Ext H1 L1 m1 H2 Lb m2) (k : StOk K H1 L1 m1 st) (k2 : StOk K H2 Lb m2 st2) (r : RepW K H1 L1 m1 v w) (hs : ∀ n ∈ locs1 w, n ∈ ls) (hy : Stay ls st st2) {d : PyData} (h : look st w = some d) : RepR K H2 Lb v d := by
  refine (r.mono e).lookR k2 ?_
  cases w with
  | val d' => exact h
  | scr ns => exact h
  | loc n =>
    simp only [look] at h ⊢
    rw [hy n (hs n (by simp [locs1]))]
    exact h
  | pk _ _ => cases h
  | dic _ => cases h
theorem walk_seqL {a : Addr} {ds : List PyData} : WalkD K (Itl K a) ds (fun H L => ∃ vs, SqL K H a vs ∧ RepA K H L vs ds) := by
  refine ⟨fun i H L hi ⟨vs, h1, h2⟩ => ?_, fun H L ⟨vs, h1, h2⟩ => ⟨vs, h1, by rw [h2.length]; exact Nat.le_refl _⟩, fun i H L x H' hi ⟨vs, h1, h2⟩ y => ?_⟩
  · have hv : i < vs.length := by rw [h2.length]; exact hi
    exact ⟨vs, vs[i], h1, List.getElem?_eq_getElem hv⟩
  · obtain ⟨rfl, y⟩ := y
    obtain ⟨v, g1, g2⟩ := h2.get (List.getElem?_eq_getElem hi)
    refine ⟨.refl _, ds[i], List.getElem?_eq_getElem hi, ?_⟩
    rw [y vs h1] at g1
    cases g1
    exact g2
theorem walk_seqT {a : Addr} {ds : List PyData} : WalkD K (Itt K a) ds (fun H L => ∃ vs, SqT K H a vs ∧ RepA K H L vs ds) := by
  refine ⟨fun i H L hi ⟨vs, h1, h2⟩ => ?_, fun H L ⟨vs, h1, h2⟩ => ⟨vs, h1, by rw [h2.length]; exact Nat.le_refl _⟩, fun i H L x H' hi ⟨vs, h1, h2⟩ y => ?_⟩
  · have hv : i < vs.length := by rw [h2.length]; exact hi
    exact ⟨vs, vs[i], h1, List.getElem?_eq_getElem hv⟩
  · obtain ⟨rfl, y⟩ := y
    obtain ⟨v, g1, g2⟩ := h2.get (List.getElem?_eq_getElem hi)
    refine ⟨.refl _, ds[i], List.getElem?_eq_getElem hi, ?_⟩
    rw [y vs h1] at g1
    cases g1
    exact g2
theorem rngD_get {lo : Int} {n i : Nat} (h : i < n) : (rngD lo n)[i]? = some (.int (lo + (i : Nat))) := by
  unfold rngD
  rw [List.getElem?_map, List.getElem?_range h]
  rfl
theorem rngD_len {lo : Int} {n : Nat} : (rngD lo n).length = n := by simp [rngD]
theorem walk_rng {lo : Int} {n : Nat} : WalkD K (Itr lo n) (rngD lo n) (fun _ _ => True) := by
  refine ⟨fun i H L hi _ => ?_, fun H L _ => ?_, fun i H L x H' hi _ y => ?_⟩
  · rw [rngD_len] at hi; exact hi
  · rw [rngD_len]; exact Nat.le_refl _
  · rw [rngD_len] at hi
    obtain ⟨rfl, rfl⟩ := y
    exact ⟨.refl _, _, rngD_get hi, .int _⟩
theorem enumD_get : ∀ {ds : List PyData} {k i : Nat} {d : PyData}, ds[i]? = some d → (enumD k ds)[i]? = some (.tuple [.int ((k + i : Nat) : Int), d])
  | [], _, _, _, h => by simp at h
  | x :: ds, k, 0, d, h => by simp at h; subst h; simp [enumD]
  | x :: ds, k, i + 1, d, h => by
    simp only [List.getElem?_cons_succ] at h
    simp only [enumD, List.getElem?_cons_succ]
    rw [enumD_get h, show k + 1 + i = k + (i + 1) by omega]
theorem enumD_len : ∀ {ds : List PyData} {k : Nat}, (enumD k ds).length = ds.length
  | [], _ => rfl
  | x :: ds, k => by simp [enumD, enumD_len]
theorem walk_enumD {a : Addr} {ds : List PyData} : WalkD K (Ite K a) (enumD 0 ds) (fun H L => (∀ b, L b → H b ≠ none) ∧ ∃ vs, SqL K H a vs ∧ RepA K H L vs ds) := by
  refine ⟨fun i H L hi ⟨_, vs, h1, h2⟩ => ?_, fun H L ⟨_, vs, h1, h2⟩ => ⟨vs, h1, by rw [h2.length, enumD_len]; exact Nat.le_refl _⟩, fun i H L x H' hi ⟨ht, vs, h1, h2⟩ y => ?_⟩
  · rw [enumD_len] at hi
    have hv : i < vs.length := by rw [h2.length]; exact hi
    exact ⟨vs, vs[i], h1, List.getElem?_eq_getElem hv⟩
  · rw [enumD_len] at hi
    obtain ⟨T, z, rfl, hT, rfl, y⟩ := y
    obtain ⟨v, g1, g2⟩ := h2.get (List.getElem?_eq_getElem hi)
    refine ⟨.new hT, _, enumD_get (List.getElem?_eq_getElem hi), ?_⟩
    rw [y vs h1] at g1
    cases g1
    refine .tup (.inl ⟨upd_same, fun l => ht T l hT⟩) (by show 2 ≤ sizeLine; decide) ?_
    rw [Nat.zero_add]
    exact .cons (.int _) (.cons (g2.gr (.new hT)) .nil)
theorem walk_zipG {J : It} {xs ys : List PyData} {G G' : Hp → List V → Prop}
    (hgo : ∀ i H vs us x y, G H vs → G' H us → vs[i]? = some x → us[i]? = some y → J.go i H) (hst : ∀ i H vs us, G H vs → G' H us → (vs.length ≤ i ∨ us.length ≤ i) → J.stop i H)
    (hy : ∀ i H v H' vs us, G H vs → G' H us → J.yld i H v H' → ∃ T x y, v = .ref T ∧ H T = none ∧ H' = upd H T (.tup [x, y]) ∧ vs[i]? = some x ∧ us[i]? = some y) :
    WalkD K J (List.zipWith (fun u v => .tuple [u, v]) xs ys) (fun H L => (∀ b, L b → H b ≠ none) ∧ (∃ vs, G H vs ∧ RepA K H L vs xs) ∧ ∃ us, G' H us ∧ RepA K H L us ys) := by
  have len : (List.zipWith (fun u v => PyData.tuple [u, v]) xs ys).length = min xs.length ys.length := by simp
  refine ⟨fun i H L hi ⟨_, ⟨vs, h1, h2⟩, us, g1, g2⟩ => ?_, fun H L ⟨_, ⟨vs, h1, h2⟩, us, g1, g2⟩ => ?_, fun i H L x H' hi ⟨ht, ⟨vs, h1, h2⟩, us, g1, g2⟩ y => ?_⟩
  · rw [len] at hi
    have hv : i < vs.length := by rw [h2.length]; omega
    have hu : i < us.length := by rw [g2.length]; omega
    exact hgo i H vs us _ _ h1 g1 (List.getElem?_eq_getElem hv) (List.getElem?_eq_getElem hu)
  · refine hst _ H vs us h1 g1 ?_
    rw [len, h2.length, g2.length]
    omega
  · rw [len] at hi
    obtain ⟨T, z, z', rfl, hT, rfl, y1, y2⟩ := hy i H x H' vs us h1 g1 y
    have hx : i < xs.length := by omega
    have hy : i < ys.length := by omega
    obtain ⟨v, q1, q2⟩ := h2.get (List.getElem?_eq_getElem hx)
    obtain ⟨v', q1', q2'⟩ := g2.get (List.getElem?_eq_getElem hy)
    rw [y1] at q1
    rw [y2] at q1'
    cases q1
    cases q1'
    refine ⟨.new hT, .tuple [xs[i], ys[i]], ?_, .tup (.inl ⟨upd_same, fun l => ht T l hT⟩) (by show 2 ≤ sizeLine; decide) (.cons (q2.gr (.new hT)) (.cons (q2'.gr (.new hT)) .nil))⟩
    rw [List.getElem?_zipWith, List.getElem?_eq_getElem hx, List.getElem?_eq_getElem hy]
theorem walk_zipL {a b : Addr} {xs ys : List PyData} : WalkD K (Itz K a b) (List.zipWith (fun u v => .tuple [u, v]) xs ys) (fun H L => (∀ b, L b → H b ≠ none) ∧ (∃ vs, SqL K H a vs ∧ RepA K H L vs xs) ∧ ∃ us, SqL K H b us ∧ RepA K H L us ys) :=
  walk_zipG (fun i H vs us x y h1 h2 h3 h4 => ⟨vs, us, x, y, h1, h2, h3, h4⟩) (fun i H vs us h1 h2 h3 => ⟨vs, us, h1, h2, h3⟩) fun i H v H' vs us h1 h2 ⟨T, x, y, e1, e2, e3, e4, e5⟩ => ⟨T, x, y, e1, e2, e3, e4 vs h1, e5 us h2⟩
theorem walk_zipT {a b : Addr} {xs ys : List PyData} : WalkD K (RZ.ItzT K a b) (List.zipWith (fun u v => .tuple [u, v]) xs ys) (fun H L => (∀ b, L b → H b ≠ none) ∧ (∃ vs, SqT K H a vs ∧ RepA K H L vs xs) ∧ ∃ us, SqT K H b us ∧ RepA K H L us ys) :=
  walk_zipG (fun i H vs us x y h1 h2 h3 h4 => ⟨vs, us, x, y, h1, h2, h3, h4⟩) (fun i H vs us h1 h2 h3 => ⟨vs, us, h1, h2, h3⟩) fun i H v H' vs us h1 h2 ⟨T, x, y, e1, e2, e3, e4, e5⟩ => ⟨T, x, y, e1, e2, e3, e4 vs h1, e5 us h2⟩
theorem RepR.seqL {ds : List PyData} (h : RepR K H L v (.list ds)) {a : Addr} (e : v = .ref a) : ∃ vs, SqL K H a vs ∧ RepA K H L vs ds := by
  obtain ⟨a', vs, e', h1, h2, h3⟩ := h.toLst
  rw [e] at e'
  cases e'
  exact ⟨vs, h1, h3⟩
theorem RepR.seqT {ds : List PyData} (h : RepR K H L v (.tuple ds)) {a : Addr} (e : v = .ref a) : ∃ vs, SqT K H a vs ∧ RepA K H L vs ds := by
  obtain ⟨a', vs, e', h1, h2, h3⟩ := h.toTup
  rw [e] at e'
  cases e'
  exact ⟨vs, h1, h3⟩
end
section
variable {X : Cx} {C : CallF} {pos p : Pos} {e a b tg : Expr} {es : List Expr} {ia ib : Ex} {ies : Exs}
theorem stay_trans {ls : List Nat} {a b c : Mem} (h : Stay ls a b) (g : Stay ls b c) : Stay ls a c := fun n hn => (g n hn).trans (h n hn)
/-- a dict is let go for good -/
theorem dic_rel {K : PySem.W.Frag} {H : Hp} {L : Ad} {m : List Addr} {st : Mem} {n : Nat} {a : Addr} {c : Sk.Cell} {o : Obj} {zs : List (List Int × Addr × Value)} (s : StOk K H L m st) (e1 : st[n]? = some c) (h : m[n]? = some a) (q1 : H a = some (.ext (DicH a o zs))) (q2 : zs.length ≤ sizeLine) (q3 : (a == sysModules) = false) (q4 : Paired (DEnt K H L) zs c.2) :
    ∃ L', StOk K H L' m (st.set n (false, c.2)) ∧ Ext H L m H L' m ∧ ¬ L' a := by
  have am : a ∈ m := List.mem_of_getElem? h
  have kp : ∀ b o, H b = some o → ¬ L b → H b = some o ∧ ¬ (L b ∧ b ≠ a) := fun b o q z => ⟨q, fun y => z y.1⟩
  refine ⟨fun b => L b ∧ b ≠ a, ⟨by rw [List.length_set]; exact s.len, s.nd, fun b l => s.trk b l.1, fun k c' b g1 g2 => ?_⟩, ⟨kp, fun b l hb _ => ⟨⟨l, fun z => hb (z ▸ am)⟩, rfl⟩, ⟨[], by simp, by simp⟩, fun _ o z => ⟨o, z, rfl⟩⟩, fun z => z.2 rfl⟩
  by_cases hk : n = k
  · subst hk
    have hl : n < st.length := (List.getElem?_eq_some_iff.mp e1).1
    rw [List.getElem?_set_self hl] at g1
    cases g1
    rw [h] at g2
    cases g2
    exact .inr ⟨o, zs, q1, q2, q3, Paired.mapP q4 fun x d ⟨v, dv, y1, y2, y3, y4⟩ => ⟨v, dv, y1, Rep.mono kp _ _ y2, y3, Rep.mono kp _ _ y4⟩, fun z => (Bool.false_ne_true z).elim, fun _ z => z.2 rfl⟩
  · rw [List.getElem?_set_ne hk] at g1
    have hne : b ≠ a := fun z => hk ((List.getElem?_inj (List.getElem?_eq_some_iff.mp h).1 s.nd).mp (by rw [h, g2, z]))
    exact (s.cell k c' b g1 g2).mono kp rfl (fun z => ⟨z, hne⟩) (fun z y => z y.1)
theorem paired_at {α β : Type} {F : α → β → Prop} : ∀ {l : List α} {l' : List β} {i : Nat} {x : α}, Paired F l l' → l[i]? = some x → ∃ y, l'[i]? = some y ∧ F x y
  | [], _, _, _, _, h => by simp at h
  | a :: l, _, 0, x, r, h => by
    cases r with
    | cons r1 r2 => simp at h; subst h; exact ⟨_, by simp, r1⟩
  | a :: l, _, i + 1, x, r, h => by
    cases r with
    | cons r1 r2 =>
      obtain ⟨y, h1, h2⟩ := paired_at r2 (i := i) (x := x) (by simpa using h)
      exact ⟨y, by simpa using h1, h2⟩
/-- a list or a tuple, walked -/
theorem i_seq (ha : PE X a (tE X.K C ia)) : PI X tg a (tI X.K C (.seq ia)) := by
  refine ⟨fun pins s σ H R I ⟨L, m, r, st, xs, ls, s0, he, hs, h, q⟩ => ?_⟩
  simp only [evI, Option.bind_eq_some_iff, Prod.exists] at h
  obtain ⟨x, s1, h1, hx⟩ := h
  by_cases hd : ∃ n, x = .dic n
  · obtain ⟨n, rfl⟩ := hd
    simp only [itemsOf, Option.map_eq_some_iff] at hx
    obtain ⟨c, hc, hx⟩ := hx
    cases hx
    refine (pi_dic ha).run pins s σ H R I ⟨L, m, r, st, _, _, he, hs, h1, fun v1 H1 L1 m1 e1 k1 r1 => ?_⟩
    cases r1 with | @dic a0 _ hm hg =>
    obtain ⟨o, zs, q1, q2, q3, q4, q5, q6⟩ := (k1.cell n c a0 hc hm).dct hg
    obtain ⟨L2, k2, e2, nL⟩ := dic_rel k1 hc hm q1 q2 q3 q4
    refine ⟨a0, o, zs, rfl, q1, q3, q _ H1 L2 m1 (e1.trans e2) k2 (by rw [List.length_map, ← Paired.length q4]; exact q2) ⟨fun H L => H a0 = some (.ext (DicH a0 o zs)) ∧ Paired (DEnt X.K H L) zs c.2, ?_, fun H2 Lb m2 st2 e3 k3 _ => ⟨(e3.keep _ _ q1 nL).1, ?_⟩⟩⟩
    · have hl := Paired.length q4
      refine ⟨fun i H L hi z => ⟨z.1, by rw [List.length_map, ← hl] at hi; exact hi⟩, fun H L z => ⟨z.1, by rw [List.length_map, hl]; exact Nat.le_refl _⟩, fun i H L x H' hi z y => ?_⟩
      obtain ⟨rfl, y0, hy, rfl⟩ := y
      obtain ⟨d, hd, v, dv, rfl, g2, g3, g4⟩ := paired_at z.2 hy
      refine ⟨.refl _, _, ?_, g2⟩
      rw [List.getElem?_map, hd]
      rfl
    · exact Paired.mapP q4 fun x d ⟨v, dv, g1, g2, g3, g4⟩ => ⟨v, dv, g1, Rep.mono (e2.trans e3).keep _ _ g2, g3, Rep.mono (e2.trans e3).keep _ _ g4⟩
  have hx : (seqOf s1 x).map (fun ds => (ds, locs1 x, s1)) = some (xs, ls, s0) := by
    cases x with
    | dic n => exact absurd ⟨n, rfl⟩ hd
    | _ => exact hx
  obtain ⟨ds, h2, h3⟩ := Option.map_eq_some_iff.mp hx
  cases h3
  unfold seqOf at h2
  -- one of the two walks, by what the value is
  have key : (∃ t, PI X tg a t ∧ t σ H R) := by
    split at h2
    · rename_i hl
      cases h2
      refine ⟨_, pi_list ha, L, m, r, st, x, _, he, hs, h1, fun v1 H1 L1 m1 e1 k1 r1 => ?_⟩
      obtain ⟨a0, vs, e0, g1, g2, g3⟩ := (r1.lookR k1 hl).toLst
      refine ⟨a0, e0, ⟨vs, g1⟩, q _ H1 L1 m1 e1 k1 (by rw [← g3.length]; exact g2) ⟨_, walk_seqL, fun H2 Lb m2 st2 e2 k2 y => (again e2 k1 k2 r1 (fun n hn => hn) y hl).seqL e0⟩⟩
    · rename_i hl
      cases h2
      refine ⟨_, pi_tup ha, L, m, r, st, x, _, he, hs, h1, fun v1 H1 L1 m1 e1 k1 r1 => ?_⟩
      obtain ⟨a0, vs, e0, g1, g2, g3⟩ := (r1.lookR k1 hl).toTup
      refine ⟨a0, e0, ⟨vs, g1⟩, q _ H1 L1 m1 e1 k1 (by rw [← g3.length]; exact g2) ⟨_, walk_seqT, fun H2 Lb m2 st2 e2 k2 y => (again e2 k1 k2 r1 (fun n hn => hn) y hl).seqT e0⟩⟩
    · cases h2
  obtain ⟨t, h, ht⟩ := key
  exact h.run pins s σ H R I ht
theorem i_rng1 (hg : Gl X "range") (hm : X.mg "range" = none) (ha : PE X a (tE X.K C ia)) (hs : starEach [a] X.env = [(false, eval a X.env)]) : PI X tg (.Call (.Name "range" p) [a] [] pos) (tI X.K C (.rng1 ia)) :=
  (pi_range1 hg hm (pa_cons ha pa_nil hs) hs).weak fun σ H R ⟨L, m, r, st, xs, ls, s0, he, hs, h, q⟩ => by
    simp only [evI, Option.bind_eq_some_iff, Prod.exists] at h
    obtain ⟨x, s1, h1, h2⟩ := h
    refine ⟨L, m, r, st, x, s1, he, hs, h1, fun v1 H1 L1 m1 e1 k1 r1 => ?_⟩
    split at h2
    · split at h2
      · rename_i j hj
        cases h2
        cases r1 with | val r1 =>
        cases r1
        have hj' : j ≤ 1000000 := hj.2
        exact ⟨j, rfl, by omega, by omega, q _ H1 L1 m1 e1 k1 (by rw [rngD_len]; exact Nat.le_trans (show j.toNat ≤ lineN by unfold lineN; omega) line_le) ⟨_, walk_rng, fun _ _ _ _ _ _ _ => trivial⟩⟩
      · cases h2
    · cases h2
theorem i_rng2 (hg : Gl X "range") (hm : X.mg "range" = none) (ha : PE X a (tE X.K C ia)) (hb : PE X b (tE X.K C ib)) (hs : starEach [a, b] X.env = [(false, eval a X.env), (false, eval b X.env)]) (hs2 : starEach [b] X.env = [(false, eval b X.env)]) :
    PI X tg (.Call (.Name "range" p) [a, b] [] pos) (tI X.K C (.rng2 ia ib)) :=
  (pi_range2 hg hm (pa_cons ha (pa_cons hb pa_nil hs2) (by rw [hs, hs2])) hs hs2).weak fun σ H R ⟨L, m, r, st, xs, ls, s0, he, hs, h, q⟩ => by
    simp only [evI, Option.bind_eq_some_iff, Prod.exists] at h
    obtain ⟨x, s1, h1, y, s2, h2, h3⟩ := h
    refine ⟨L, m, r, st, x, s1, he, hs, h1, fun v1 H1 L1 m1 e1 k1 r1 => ⟨L1, m1, r, s1, y, s2, he.mono e1, k1, h2, fun v2 H2 Lb m2 e2 k2 r2 => ?_⟩⟩
    split at h3
    · split at h3
      · rename_i i j hj
        cases h3
        cases r1 with | val r1 =>
        cases r1
        cases r2 with | val r2 =>
        cases r2
        have hj' : j ≤ i + 1000000 := hj.2.2.2
        exact ⟨i, j, rfl, ⟨by omega, by omega, by omega, by omega⟩, q _ H2 Lb m2 (e1.trans e2) k2 (by rw [rngD_len]; exact Nat.le_trans (show (j - i).toNat ≤ lineN by unfold lineN; omega) line_le) ⟨_, walk_rng, fun _ _ _ _ _ _ _ => trivial⟩⟩
      · cases h3
    · cases h3
theorem walk_enumK {k1 : Kd} {a : Addr} {xs : List PyData} {n1 : Nat} (h1 : n1 = xs.length) : WalkD X.K (IteK X.K k1 a n1) (enumD 0 xs) (fun H L => (∀ b, L b → H b ≠ none) ∧ ∃ vs, SqK k1 X.K H a vs ∧ RepA X.K H L vs xs) := by
  refine ⟨fun i H L hi ⟨_, vs, q1, q2⟩ => ?_, fun H L ⟨_, vs, q1, q2⟩ => ?_, fun i H L x H' hi ⟨ht, vs, q1, q2⟩ y => ?_⟩
  · rw [enumD_len] at hi
    exact ⟨vs, q1, by rw [q2.length, h1], by rw [h1]; exact hi⟩
  · exact ⟨vs, q1, by rw [q2.length, h1], by rw [enumD_len, h1]⟩
  · rw [enumD_len] at hi
    obtain ⟨T, z, rfl, hT, rfl, y⟩ := y
    obtain ⟨v, r1, r2⟩ := q2.get (List.getElem?_eq_getElem hi)
    refine ⟨.new hT, _, enumD_get (List.getElem?_eq_getElem hi), ?_⟩
    rw [y vs q1] at r1
    cases r1
    refine .tup (.inl ⟨upd_same, fun l => ht T l hT⟩) (by show 2 ≤ sizeLine; decide) ?_
    rw [Nat.zero_add]
    exact .cons (.int _) (.cons (r2.gr (.new hT)) .nil)
theorem i_enum {elts : List Expr} {kk : Nat} {tpos : Pos} (hg : Gl X "enumerate") (hm : X.mg "enumerate" = none) (ha : PE X a (tE X.K C ia)) (hs : starEach [a] X.env = [(false, eval a X.env)]) :
    PI X (.Tuple elts kk tpos) (.Call (.Name "enumerate" p) [a] [] pos) (tI X.K C (.enum ia)) :=
  (pi_enumK hg hm (pa_cons ha pa_nil hs) hs).weak fun σ H R ⟨L, m, r, st, xs, ls, s0, he, hs, h, q⟩ => by
    simp only [evI, Option.bind_eq_some_iff, Option.map_eq_some_iff, Prod.exists] at h
    obtain ⟨x, s1, h1, ds, h2, h3⟩ := h
    cases h3
    refine ⟨L, m, r, st, x, _, he, hs, h1, fun v1 H1 L1 m1 e1 k1 r1 => ?_⟩
    unfold listOfW at h2
    split at h2
    · rename_i hl
      cases h2
      obtain ⟨a0, vs, e0, g1, g2, g3⟩ := (r1.lookR k1 hl).toLst
      subst e0
      exact ⟨.lst, a0, vs, rfl, rfl, g1, q _ H1 L1 m1 e1 k1 (by rw [enumD_len, ← g3.length]; exact g2) ⟨_, walk_enumK g3.length, fun H2 Lb m2 st2 e2 k2 y => ⟨k2.trk, (again e2 k1 k2 r1 (fun n hn => hn) y hl).seqL rfl⟩⟩⟩
    · rename_i hl
      cases h2
      obtain ⟨a0, vs, e0, g1, g2, g3⟩ := (r1.lookR k1 hl).toTup
      subst e0
      exact ⟨.tup, a0, vs, rfl, rfl, g1, q _ H1 L1 m1 e1 k1 (by rw [enumD_len, ← g3.length]; exact g2) ⟨_, walk_enumK g3.length, fun H2 Lb m2 st2 e2 k2 y => ⟨k2.trk, (again e2 k1 k2 r1 (fun n hn => hn) y hl).seqT rfl⟩⟩⟩
    · cases h2
theorem walk_zipK {k1 k2 : Kd} {a b : Addr} {xs ys : List PyData} {n1 n2 : Nat} (h1 : n1 = xs.length) (h2 : n2 = ys.length) : WalkD X.K (ItzK X.K k1 k2 a b n1 n2) (List.zipWith (fun u v => .tuple [u, v]) xs ys) (fun H L => (∀ b, L b → H b ≠ none) ∧ (∃ vs, SqK k1 X.K H a vs ∧ RepA X.K H L vs xs) ∧ ∃ us, SqK k2 X.K H b us ∧ RepA X.K H L us ys) := by
  have len : (List.zipWith (fun u v => PyData.tuple [u, v]) xs ys).length = min xs.length ys.length := by simp
  refine ⟨fun i H L hi ⟨_, ⟨vs, q1, q2⟩, us, g1, g2⟩ => ?_, fun H L ⟨_, ⟨vs, q1, q2⟩, us, g1, g2⟩ => ?_, fun i H L x H' hi ⟨ht, ⟨vs, q1, q2⟩, us, g1, g2⟩ y => ?_⟩
  · rw [len] at hi
    exact ⟨vs, us, q1, g1, by rw [q2.length, h1], by rw [g2.length, h2], by omega, by omega⟩
  · exact ⟨vs, us, q1, g1, by rw [q2.length, h1], by rw [g2.length, h2], by rw [len, h1, h2]⟩
  · rw [len] at hi
    obtain ⟨T, z, z', rfl, hT, rfl, y1, y2⟩ := y
    have hx : i < xs.length := by omega
    have hy : i < ys.length := by omega
    obtain ⟨v, r1, r2⟩ := q2.get (List.getElem?_eq_getElem hx)
    obtain ⟨v', r1', r2'⟩ := g2.get (List.getElem?_eq_getElem hy)
    rw [y1 vs q1] at r1
    rw [y2 us g1] at r1'
    cases r1
    cases r1'
    refine ⟨.new hT, .tuple [xs[i], ys[i]], ?_, .tup (.inl ⟨upd_same, fun l => ht T l hT⟩) (by show 2 ≤ sizeLine; decide) (.cons (r2.gr (.new hT)) (.cons (r2'.gr (.new hT)) .nil))⟩
    rw [List.getElem?_zipWith, List.getElem?_eq_getElem hx, List.getElem?_eq_getElem hy]
theorem i_zip {elts : List Expr} {kk : Nat} {tpos : Pos} (hg : Gl X "zip") (hm : X.mg "zip" = none) (ha : PE X a (tE X.K C ia)) (hb : PE X b (tE X.K C ib)) (hs : starEach [a, b] X.env = (false, eval a X.env) :: starEach [b] X.env) (hs2 : starEach [b] X.env = (false, eval b X.env) :: starEach [] X.env) :
    PI X (.Tuple elts kk tpos) (.Call (.Name "zip" p) [a, b] [] pos) (tI X.K C (.zip ia ib)) :=
  (pi_zipK hg hm (pa_cons ha (pa_cons hb pa_nil hs2) hs) hs (by rw [hs2]; rfl)).weak fun σ H R ⟨L, m, r, st, xs, ls, s0, he, hs, h, q⟩ => by
    simp only [evI, Option.bind_eq_some_iff, Prod.exists] at h
    obtain ⟨x, s1, h1, y, s2, h2, dx, h3, dy, h4, h5⟩ := h
    refine ⟨L, m, r, st, x, s1, he, hs, h1, fun v1 H1 L1 m1 e1 k1 r1 => ⟨L1, m1, r, s1, y, s2, he.mono e1, k1, h2, fun v2 H2 Lb m2 e2 k2 r2 => ?_⟩⟩
    have r1' := r1.mono e2
    have key : ∀ {q1 q2 : Kd} {xs ys : List PyData} {a0 b0 : Addr} {vs us : List V} {ls : List Nat}, flatK q1 = true → flatK q2 = true → v1 = .ref a0 → v2 = .ref b0 → SqK q1 X.K H2 a0 vs → SqK q2 X.K H2 b0 us → RepA X.K H2 Lb vs xs → RepA X.K H2 Lb us ys → vs.length ≤ sizeLine →
        (∀ J H1 L1 m1, Ext H L m H1 L1 m1 → StOk X.K H1 L1 m1 s2 → (List.zipWith (fun u v => PyData.tuple [u, v]) xs ys).length ≤ sizeLine → (∃ Z, WalkD X.K J (List.zipWith (fun u v => .tuple [u, v]) xs ys) Z ∧ ∀ H2 L2 m2 st2, Ext H1 L1 m1 H2 L2 m2 → StOk X.K H2 L2 m2 st2 → Stay ls s2 st2 → Z H2 L2) → R J H1) →
        (∀ H3 L3 m3 st3, Ext H2 Lb m2 H3 L3 m3 → StOk X.K H3 L3 m3 st3 → Stay ls s2 st3 → (∃ vs, SqK q1 X.K H3 a0 vs ∧ RepA X.K H3 L3 vs xs) ∧ ∃ us, SqK q2 X.K H3 b0 us ∧ RepA X.K H3 L3 us ys) →
        ∃ k1 k2 a b xs ys, flatK k1 = true ∧ flatK k2 = true ∧ [v1, v2] = [.ref a, .ref b] ∧ SqK k1 X.K H2 a xs ∧ SqK k2 X.K H2 b ys ∧ R (ItzK X.K k1 k2 a b xs.length ys.length) H2 := by
      intro q1 q2 xs ys a0 b0 vs us ls f1 f2 ev1 ev2 g1 z1 g3 z3 hz qq st
      subst ev1 ev2
      exact ⟨q1, q2, a0, b0, vs, us, f1, f2, rfl, g1, z1, qq _ H2 Lb m2 (e1.trans e2) k2 (by rw [List.length_zipWith, ← g3.length]; omega) ⟨_, walk_zipK g3.length z3.length, fun H3 L3 m3 st3 e3 k3 y => ⟨k3.trk, st H3 L3 m3 st3 e3 k3 y⟩⟩⟩
    split at h5
    · cases h5
      obtain ⟨a0, vs, e0, g1, g2, g3⟩ := (r1'.lookR k2 h3).toLst
      obtain ⟨b0, us, f0, z1, z2, z3⟩ := (r2.lookR k2 h4).toLst
      exact key (q1 := .lst) (q2 := .lst) rfl rfl e0 f0 g1 z1 g3 z3 g2 q fun H3 L3 m3 st3 e3 k3 y => ⟨(again e3 k2 k3 r1' (fun n hn => List.mem_append_left _ hn) y h3).seqL e0, (again e3 k2 k3 r2 (fun n hn => List.mem_append_right _ hn) y h4).seqL f0⟩
    · cases h5
      obtain ⟨a0, vs, e0, g1, g2, g3⟩ := (r1'.lookR k2 h3).toTup
      obtain ⟨b0, us, f0, z1, z2, z3⟩ := (r2.lookR k2 h4).toTup
      have n1 : locs1 x = [] := by cases r1' <;> first | rfl | (simp [look] at h3; done)
      have n2 : locs1 y = [] := by cases r2 <;> first | rfl | (simp [look] at h4; done)
      exact key (q1 := .tup) (q2 := .tup) rfl rfl e0 f0 g1 z1 g3 z3 g2 q fun H3 L3 m3 st3 e3 k3 y => ⟨(again e3 k2 k3 r1' (fun n hn => by rw [n1] at hn; exact hn) y h3).seqT e0, (again e3 k2 k3 r2 (fun n hn => by rw [n2] at hn; exact hn) y h4).seqT f0⟩
    · cases h5
      obtain ⟨a0, vs, e0, g1, g2, g3⟩ := (r1'.lookR k2 h3).toLst
      obtain ⟨b0, us, f0, z1, z2, z3⟩ := (r2.lookR k2 h4).toTup
      exact key (q1 := .lst) (q2 := .tup) rfl rfl e0 f0 g1 z1 g3 z3 g2 q fun H3 L3 m3 st3 e3 k3 y => ⟨(again e3 k2 k3 r1' (fun n hn => List.mem_append_left _ hn) y h3).seqL e0, (again e3 k2 k3 r2 (fun n hn => List.mem_append_right _ hn) y h4).seqT f0⟩
    · cases h5
      obtain ⟨a0, vs, e0, g1, g2, g3⟩ := (r1'.lookR k2 h3).toTup
      obtain ⟨b0, us, f0, z1, z2, z3⟩ := (r2.lookR k2 h4).toLst
      exact key (q1 := .tup) (q2 := .lst) rfl rfl e0 f0 g1 z1 g3 z3 g2 q fun H3 L3 m3 st3 e3 k3 y => ⟨(again e3 k2 k3 r1' (fun n hn => List.mem_append_left _ hn) y h3).seqT e0, (again e3 k2 k3 r2 (fun n hn => List.mem_append_right _ hn) y h4).seqL f0⟩
    · cases h5
theorem i_zipR {elts : List Expr} {kk : Nat} {tpos p2 pos2 : Pos} (hg : Gl X "zip") (hm : X.mg "zip" = none) (hg2 : Gl X "reversed") (hm2 : X.mg "reversed" = none) (ha : PE X a (tE X.K C ia)) (hb : PE X b (tE X.K C ib))
    (hs : starEach [a, .Call (.Name "reversed" p2) [b] [] pos2] X.env = (false, eval a X.env) :: starEach [.Call (.Name "reversed" p2) [b] [] pos2] X.env) (hs2 : starEach [b] X.env = (false, eval b X.env) :: starEach [] X.env) :
    PI X (.Tuple elts kk tpos) (.Call (.Name "zip" p) [a, .Call (.Name "reversed" p2) [b] [] pos2] [] pos) (tI X.K C (.zipR ia ib)) :=
  (pi_zipR hg hm hg2 hm2 ha hb hs rfl hs2).weak fun σ H R ⟨L, m, r, st, xs, ls, s0, he, hs, h, q⟩ => by
    simp only [evI, Option.bind_eq_some_iff, Prod.exists] at h
    obtain ⟨x, s1, h1, y, s2, h2, dx, h3, dy, h4, h5⟩ := h
    refine ⟨L, m, r, st, x, s1, he, hs, h1, fun v1 H1 L1 m1 e1 k1 r1 => ⟨L1, m1, r, s1, y, s2, he.mono e1, k1, h2, fun v2 H2 Lb m2 e2 k2 r2 => ?_⟩⟩
    have r1' := r1.mono e2
    have rev : ∀ {H : Hp} {L : Ad} {b0 : Addr} {ys : List PyData}, (∃ us, SqT X.K H b0 us ∧ RepA X.K H L us ys) → ∃ us, SqK .rvt X.K H b0 us ∧ RepA X.K H L us ys.reverse := by
      rintro H L b0 ys ⟨us, g1, g2⟩
      exact ⟨us.reverse, by show SqT X.K H b0 us.reverse.reverse; rw [List.reverse_reverse]; exact g1, RepA.reverse g2⟩
    split at h5
    · cases h5
      obtain ⟨a0, vs, e0, g1, g2, g3⟩ := (r1'.lookR k2 h3).toLst
      obtain ⟨b0, us, f0, z1, z2, z3⟩ := (r2.lookR k2 h4).toTup
      subst e0 f0
      refine ⟨.lst, a0, b0, vs, us, rfl, rfl, rfl, g1, z1, q _ H2 Lb m2 (e1.trans e2) k2 (by rw [List.length_zipWith, ← g3.length]; omega) ⟨_, walk_zipK (k1 := .lst) (k2 := .rvt) g3.length (by rw [List.length_reverse]; exact z3.length), fun H3 L3 m3 st3 e3 k3 y => ⟨k3.trk, ?_, ?_⟩⟩⟩
      · exact (again e3 k2 k3 r1' (fun n hn => List.mem_append_left _ hn) y h3).seqL rfl
      · exact rev ((again e3 k2 k3 r2 (fun n hn => List.mem_append_right _ hn) y h4).seqT rfl)
    · cases h5
      obtain ⟨a0, vs, e0, g1, g2, g3⟩ := (r1'.lookR k2 h3).toTup
      obtain ⟨b0, us, f0, z1, z2, z3⟩ := (r2.lookR k2 h4).toTup
      subst e0 f0
      refine ⟨.tup, a0, b0, vs, us, rfl, rfl, rfl, g1, z1, q _ H2 Lb m2 (e1.trans e2) k2 (by rw [List.length_zipWith, ← g3.length]; omega) ⟨_, walk_zipK (k1 := .tup) (k2 := .rvt) g3.length (by rw [List.length_reverse]; exact z3.length), fun H3 L3 m3 st3 e3 k3 y => ⟨k3.trk, ?_, ?_⟩⟩⟩
      · exact (again e3 k2 k3 r1' (fun n hn => List.mem_append_left _ hn) y h3).seqT rfl
      · exact rev ((again e3 k2 k3 r2 (fun n hn => List.mem_append_right _ hn) y h4).seqT rfl)
    · cases h5
end
end Sk

/-! Sk7: targets (tuples and lists are taken apart), comprehensions -/
namespace Sk
open PySem PySem.Spec PyProof.Rows L2

section
variable {prog : Program} {w : World} {A : Around} {E : Value → Shared → Prop}
theorem isList_but {h h' : Heap} {it l : Addr} {items : Array Value} (hl : h.IsList l items) (s : Heap.SameBut it h h') (hne : l ≠ it) : h'.IsList l items := by
  obtain ⟨o, ho, hc, n, hd⟩ := hl
  exact ⟨o, (s.2 l hne).trans ho, hc, n, hd⟩
theorem draw_list {it l : Addr} {items : Array Value} (hne : l ≠ it) : ∀ (n i : Nat) (s : Shared) (Q : List Value → Shared → Prop), s.heap.IsListIter it l i → s.heap.IsList l items → i + n ≤ items.size →
    (∀ h', h'.IsListIter it l (i + n) → Heap.SameBut it s.heap h' → Q ((items.toList.drop i).take n) { s with heap := h' }) → wpAny (model prog w) A (draw (.ref it) n) Q E s
  | 0, i, s, Q, hit, _, _, hQ => by
    unfold draw
    exact wpAny_pure (by simpa using hQ s.heap hit (Heap.SameBut.refl ..))
  | n + 1, i, s, Q, hit, hl, hle, hQ => by
    have hlt : i < items.size := by omega
    unfold draw
    refine wpAny_bind (wpAny_pyNext_list_item hit hl (x := items[i]) (by simp [hlt]) fun h1 hit1 hs1 => ?_)
    refine wpAny_bind (wpAny_holding (draw_list hne n (i + 1) _ _ hit1 (isList_but hl hs1 hne) (by omega) fun h2 hit2 hs2 => wpAny_pure ?_))
    have hd : items.toList.drop i = items[i] :: items.toList.drop (i + 1) := by simp [List.drop_eq_getElem_cons, hlt]
    have q := hQ h2 (by rw [show i + (n + 1) = i + 1 + n by omega]; exact hit2) (hs1.trans hs2)
    rw [hd, List.take_succ_cons] at q
    exact q
theorem unpackItems_list {s : Shared} {l : Addr} {items : Array Value} {Q : List Value → Shared → Prop} (hh : A.handled = none) (hl : s.heap.IsList l items)
    (hQ : ∀ h', Heap.ExtBut s.heap.objs.size s.heap h' → Q items.toList { s with heap := h' }) : wpAny (model prog w) A (unpackItems (.ref l) items.size none) Q E s := by
  have hlt : l ≠ s.heap.objs.size := by obtain ⟨o, ho, _⟩ := hl; exact Nat.ne_of_lt (Heap.lt_size ho)
  have hl2 : (s.heap.push { cls := .type "list_iterator", data := .fields #[.ref l, .int 0 0] }).IsList l items := by
    obtain ⟨o, ho, hc, n, hd⟩ := hl
    exact ⟨o, Heap.get?_push_of_some _ ho, hc, n, hd⟩
  unfold unpackItems
  refine wpAny_bind ?_
  unfold notIterableAtAll
  refine wpAny_bind (wpAny_specialOf hl.typeIs slot_list_iter.lookup ?_)
  refine wpAny_pure ?_
  simp only [Bool.false_eq_true, if_false]
  refine wpAny_bind (wpAny_holding (wpAny_pyIter_list hl ?_))
  refine wpAny_bind (wpAny_holding (draw_list hlt items.size 0 _ _ ⟨_, Heap.get?_push_size _ rfl, rfl, rfl⟩ hl2 (by omega) fun h1 hit1 hs1 => ?_))
  have hall : List.take items.size (List.drop 0 items.toList) = items.toList := by
    rw [List.drop_zero]; exact List.take_of_length_le (by simp)
  rw [hall]
  rw [if_neg (by simp)]
  refine wpAny_bind (wpAny_holding (wpAny_pyNext_list_end hh hit1 (isList_but hl2 hs1 hlt) (by simp) fun h2 he2 => ?_))
  simp only [Option.isSome_none, Bool.false_eq_true, if_false]
  exact wpAny_pure (hQ h2 fun b o hb e => he2 b o hb (hs1.extBut b o hb (Heap.get?_push_of_some _ e)))
end

/-! ### targets -/
mutual
/-- the places that a target stores at are among some -/
def tgIn : Tg → List Nat → Bool
  | .name i, own => decide (i ∈ own)
  | .tup ts, own => tgsIn ts own
def tgsIn : Tgs → List Nat → Bool
  | .nil, _ => true
  | .cons t ts, own => tgIn t own && tgsIn ts own
end
theorem wipe_get (σ : Slots) : ∀ (vs : List Nat) (j : Nat), (wipe σ vs)[j]? = if j ∈ vs then σ[j]?.map (fun _ => none) else σ[j]?
  | [], j => by simp [wipe]
  | v :: vs, j => by
    unfold wipe
    by_cases e : v = j
    · subst e
      rw [if_pos (by simp)]
      by_cases hl : v < (wipe σ vs).length
      · rw [List.getElem?_set_self hl]
        rw [wipe_length] at hl
        simp [hl]
      · rw [List.getElem?_eq_none (by simpa using hl)]
        rw [wipe_length] at hl
        rw [List.getElem?_eq_none (by omega)]
        rfl
    · rw [List.getElem?_set_ne e, wipe_get σ vs j]
      have e' : ¬ j = v := fun z => e z.symm
      simp [e']
theorem wipe_set {σ : Slots} {i : Nat} {x : Option V} {vs : List Nat} (h : i ∈ vs) : wipe (σ.set i x) vs = wipe σ vs := by
  refine List.ext_getElem? fun j => ?_
  rw [wipe_get, wipe_get]
  by_cases hj : j ∈ vs
  · rw [if_pos hj, if_pos hj]
    by_cases e : i = j
    · subst e
      by_cases hl : i < σ.length
      · rw [List.getElem?_set_self hl, List.getElem?_eq_getElem hl]
        rfl
      · rw [List.getElem?_eq_none (by simpa using hl), List.getElem?_eq_none (by omega)]
    · rw [List.getElem?_set_ne e]
  · rw [if_neg hj, if_neg hj, List.getElem?_set_ne (show i ≠ j from fun e => hj (e ▸ h))]
theorem wipe_wipe (σ : Slots) (vs : List Nat) : wipe (wipe σ vs) vs = wipe σ vs := by
  refine List.ext_getElem? fun j => ?_
  rw [wipe_get (wipe σ vs), wipe_get σ]
  by_cases hj : j ∈ vs
  · rw [if_pos hj, if_pos hj]
    cases σ[j]? <;> rfl
  · rw [if_neg hj, if_neg hj]
def tG (K : PySem.W.Frag) (t : Tg) : TG := fun v σ H Q => ∃ L m r w r', EnvOk K H L m r σ ∧ RepW K H L m v w ∧ bindT t w r = some r' ∧ ∀ σ', EnvOk K H L m r' σ' → (∀ vs, tgIn t vs = true → wipe σ' vs = wipe σ vs) → Q σ' H
def tGs (K : PySem.W.Frag) (t : Tgs) : TGs := fun vs σ H Q => ∃ L m r ws r', EnvOk K H L m r σ ∧ RepWs K H L m vs ws ∧ bindTs t ws r = some r' ∧ ∀ σ', EnvOk K H L m r' σ' → (∀ vs, tgsIn t vs = true → wipe σ' vs = wipe σ vs) → Q σ' H
theorem _root_.L2.PG.weak {X : Cx} {e : Expr} {t t' : TG} (h : PG X e t) (w : ∀ v σ H Q, t' v σ H Q → t v σ H Q) : PG X e t' := ⟨fun pins s σ H v u Q I r q => h.run pins s σ H v u Q I r (w v σ H Q q)⟩
theorem _root_.L2.PGs.weak {X : Cx} {e : List Expr} {t t' : TGs} (h : PGs X e t) (w : ∀ v σ H Q, t' v σ H Q → t v σ H Q) : PGs X e t' := ⟨fun pins s σ H v u Q I r q => h.run pins s σ H v u Q I r (w v σ H Q q)⟩
def lenT : Tgs → Nat
  | .nil => 0
  | .cons _ ts => lenT ts + 1
theorem bindTs_len : ∀ {ts : Tgs} {ws : List W} {r r' : Rho}, bindTs ts ws r = some r' → ws.length = lenT ts
  | .nil, [], _, _, _ => rfl
  | .nil, _ :: _, _, _, h => by simp [bindTs] at h
  | .cons t ts, [], _, _, h => by simp [bindTs] at h
  | .cons t ts, w :: ws, r, r', h => by
    simp only [bindTs, Option.bind_eq_some_iff] at h
    obtain ⟨r1, h1, h2⟩ := h
    rw [List.length_cons, bindTs_len h2]
    rfl
theorem repA_ws {K : PySem.W.Frag} {H : Hp} {L : Ad} {m : List Addr} : ∀ {ds : List PyData} {vs : List V}, RepA K H L vs ds → RepWs K H L m vs (ds.map .val)
  | [], _, h => by cases h; exact .nil
  | d :: ds, _, h => by cases h with | cons h1 h2 => exact .cons (.val h1) (repA_ws h2)
section
variable {X : Cx} {pos : Pos}
theorem g_name {i : Nat} {x : Str} (hN : X.N.Nodup) (hi : X.N[i]? = some x) (hx : Loc X.env.scope x) (hf : X.fn x = true ∨ X.env.scope.names.lookup x = some .local) : PG X (.Name x pos) (tG X.K (.name i)) :=
  (pg_name hN hi hx hf).weak fun v σ H Q ⟨L, m, r, w, r', he, rw, hb, q⟩ => by
    simp only [bindT] at hb
    cases hb
    exact q _ (he.set i rw) fun vs h => wipe_set (by simpa [tgIn] using h)
theorem g_nil : PGs X [] (tGs X.K .nil) := pgs_nil.weak fun v σ H Q ⟨L, m, r, ws, r', he, rw, hb, q⟩ => by
  cases rw with
  | nil =>
    simp only [bindTs] at hb
    cases hb
    exact ⟨rfl, q _ he fun _ _ => rfl⟩
  | cons _ _ => simp [bindTs] at hb
theorem g_cons {e : Expr} {es : List Expr} {t : Tg} {ts : Tgs} (h1 : PG X e (tG X.K t)) (h2 : PGs X es (tGs X.K ts)) (hs : (assignEach (e :: es) X.env).map (·.2) = assign e X.env :: (assignEach es X.env).map (·.2)) : PGs X (e :: es) (tGs X.K (.cons t ts)) :=
  (pgs_cons h1 h2 hs).weak fun v σ H Q ⟨L, m, r, ws, r', he, rw, hb, q⟩ => by
    cases rw with
    | nil => simp [bindTs] at hb
    | cons rw1 rw2 =>
      simp only [bindTs, Option.bind_eq_some_iff] at hb
      obtain ⟨r1, hb1, hb2⟩ := hb
      refine ⟨_, _, rfl, L, m, r, _, r1, he, rw1, hb1, fun σ' he' hw => ⟨L, m, r1, _, r', he', rw2, hb2, fun σ2 he2 hw2 => q σ2 he2 fun vs h => ?_⟩⟩
      simp only [tgsIn, Bool.and_eq_true] at h
      rw [hw2 vs h.2, hw vs h.1]
/-- (a, b, ..) = a tuple or a list of that length -/
theorem g_tup {es : List Expr} {k : Nat} {ts : Tgs} (hc : X.calm = true) (h : PGs X es (tGs X.K ts)) (hn : (assignEach es X.env).length = lenT ts) (hst : (assignEach es X.env).findIdx? (·.1) = none) : PG X (.Tuple es k pos) (tG X.K (.tup ts)) := by
  refine ⟨fun pins s σ H v u Q I r ⟨L, m, ρ, w, r', he, rw, hb, q⟩ => ?_⟩
  have fin : ∀ {ds : List PyData} {vs : List V} {us : List Value} {h' : Heap}, (∀ b o, s.heap.get? b = some o → h'.get? b = some o) → RepA X.K H L vs ds → Vals vs us → bindTs ts (ds.map .val) ρ = some r' →
      wpAny (model X.prog X.w) X.A (assignInOrder ((assignEach es X.env).map (·.2)) us) (fun _ s' => ∃ σ' H', Inv X pins σ' H' s' ∧ Q σ' H') X.xe { s with heap := h' } := fun {ds vs us h'} kp ra rv hb =>
    h.run pins _ σ H vs us _ (I.kept (t' := s.toks) kp) rv ⟨L, m, ρ, _, r', he, repA_ws ra, hb, fun σ' he' hw => q σ' he' fun vs h => hw vs (by simpa [tgIn] using h)⟩
  have kp : ∀ {h' : Heap}, Heap.ExtBut s.heap.objs.size s.heap h' → ∀ b o, s.heap.get? b = some o → h'.get? b = some o := fun {h'} hx b o e => hx b o (Nat.ne_of_lt (Heap.lt_size e)) e
  cases w with
  | loc n => simp [bindT] at hb
  | scr ns => simp [bindT] at hb
  | dic n => simp [bindT] at hb
  | pk n ds =>
    simp only [bindT] at hb
    cases rw with | @pk a b _ us _ g1 g2 g3 g4 g5 g6 =>
    cases r
    obtain ⟨its, rv, ht, hz⟩ := I.tuple (.inl (.inl g1))
    have hl := bindTs_len hb
    rw [List.length_cons, List.length_map] at hl
    exact assign_Tuple_tuple (I.ok.hd hc) ht (by rw [hn, List.size_toArray, ← rv.length, List.length_cons, g6.length, hl]) hst fun h' hx =>
      h.run pins _ σ H _ _ _ (I.kept (t' := s.toks) (kp hx)) (by simpa using rv) ⟨L, m, ρ, _, r', he, .cons (.loc g3 g4) (repA_ws g6), hb, fun σ' he' hw => q σ' he' fun vs h => hw vs (by simpa [tgIn] using h)⟩
  | val d =>
    cases rw with | val rw =>
    cases d with
    | tuple ds =>
      simp only [bindT] at hb
      obtain ⟨a, vs, e0, g1, g2, g3⟩ := (RepT.val rw).toTup
      subst e0
      cases r
      obtain ⟨its, rv, ht, hz⟩ := I.tuple g1
      have hl := bindTs_len hb
      rw [List.length_map] at hl
      exact assign_Tuple_tuple (I.ok.hd hc) ht (by rw [hn, List.size_toArray, ← rv.length, g3.length, hl]) hst fun h' hx => fin (kp hx) g3 (by simpa using rv) hb
    | list ds =>
      simp only [bindT] at hb
      obtain ⟨a, vs, e0, g1, g2, g3⟩ := (RepT.val rw).toList
      subst e0
      cases r
      obtain ⟨its, rv, ht, hz⟩ := I.list (SqL.of g1)
      have hl := bindTs_len hb
      rw [List.length_map] at hl
      have hsz : (assignEach es X.env).length = its.toArray.size := by rw [hn, List.size_toArray, ← rv.length, g3.length, hl]
      rw [assign_Tuple]
      refine wpAny_bind (wpAny_standAt ?_)
      unfold unpack
      rw [hsz, hst]
      exact wpAny_bind (wpAny_holding (unpackItems_list (I.ok.hd hc) ht.isList fun h' hx => fin (kp hx) g3 (by simpa using rv) hb))
    | _ => simp [bindT] at hb
end

/-! ### comprehensions -/
section
variable {K : PySem.W.Frag} {H : Hp} {L : Ad} {m : List Addr}
theorem wipe_env {r : Rho} {σ : Slots} (h : EnvOk K H L m r σ) : ∀ vs : List Nat, EnvOk K H L m (wipeR r vs) (wipe σ vs)
  | [] => h
  | v :: vs => by
    have ih := wipe_env h vs
    unfold wipeR wipe
    refine ⟨by rw [List.length_set, List.length_set]; exact ih.len, fun i w q => ?_⟩
    by_cases e : v = i
    · subst e
      by_cases hl : v < (wipeR r vs).length
      · rw [List.getElem?_set_self hl] at q; cases q
      · rw [List.getElem?_eq_none (by simpa using hl)] at q; cases q
    · rw [List.getElem?_set_ne e] at q
      obtain ⟨x, h1, h2⟩ := ih.get i w q
      exact ⟨x, by rw [List.getElem?_set_ne e]; exact h1, h2⟩
/-- the tests of a clause -/
def tC1 (K : PySem.W.Frag) (C : CallF) (c : Exs) : TT := fun σ H Q => ∃ L m r st k st', EnvOk K H L m r σ ∧ StOk K H L m st ∧ evC C c r st = some (k, st') ∧ QT K H L m st' (Q k)
end
theorem _root_.L2.PTs.weak {X : Cx} {e : List Expr} {t t' : TT} (h : PTs X e t) (w : ∀ σ H Q, t' σ H Q → t σ H Q) : PTs X e t' := ⟨fun pins s σ H Q I q => h.run pins s σ H Q I (w σ H Q q)⟩
section
variable {X : Cx} {C : CallF} {pos : Pos}
theorem c_nil : PTs X [] (tC1 X.K C .nil) := pts_nil.weak fun σ H Q ⟨L, m, r, st, k, st', he, hs, h, q⟩ => by
  simp only [evC] at h
  cases h
  exact q H L m .refl hs
theorem c_one {c : Expr} {ic : Ex} (h : PT X c (tT X.K C ic)) : PTs X [c] (tC1 X.K C (.cons ic .nil)) := (pts_one h).weak fun σ H Q ⟨L, m, r, st, k, st', he, hs, h, q⟩ => by
  simp only [evC, Option.bind_eq_some_iff, Prod.exists] at h
  obtain ⟨x, s1, h1, h2⟩ := h
  split at h2
  · cases h2
    exact ⟨L, m, r, st, _, _, he, hs, h1, q⟩
  · cases h2

end
/-- the new list of a comprehension is its own while it is filled -/
theorem lc_read {K : PySem.W.Frag} {C : CallF} {vs0 : List Nat} {ie : Ex} {t : Tg} {it : Itx} {cond : Exs} (hin : tgIn t vs0 = true) {σ : Slots} {H : Hp} {Q : VK} (h0 : tF K C (.lc ie t it cond vs0) σ H Q) :
    tLc (tI K C it) (tG K t) (tC1 K C cond) (tE K C ie) vs0 σ H Q := by
  obtain ⟨L, m, r, st, ds, st', hen, hst, h, q⟩ := h0
  simp only [evF, Option.bind_eq_some_iff, Prod.exists] at h
  obtain ⟨xs, ls, s0, h1, h2⟩ := h
  refine ⟨L, m, r, st, xs, ls, s0, hen, hst, h1, fun J H1 L1 m1 e1 k1 hz ⟨Z, wd, hZ⟩ D hD => ?_⟩
  have hen1 := wipe_env (hen.mono e1) vs0
  generalize hf : (fun x st => (bindT t (.val x) (wipeR r vs0)).bind fun r1 => (evC C cond r1 st).bind fun (k, s1) =>
        if k then (ev C ie r1 s1).bind fun (w, s2) => (frz s2 w).bind fun (d, s3) => some (some d, s3) else some (none, s1)) = f at h2
  -- the store with one more owned place
  have own_ok : ∀ {H2 : Hp} {L2 : Ad} {m2 : List Addr} {st2 : Mem} {o : HO}, StOk K H2 L2 m2 st2 → L2 D → D ∉ m2 → StOk K (upd H2 D o) L2 m2 st2 := fun {H2 L2 m2 st2 o} k l n => by
    refine ⟨k.len, k.nd, fun a la => ?_, fun j c a g1 g2 => ?_⟩
    · by_cases ea : a = D
      · subst ea; rw [upd_same]; simp
      · rw [upd_ne ea]; exact k.trk a la
    · have ne : a ≠ D := fun z => n (z ▸ List.mem_of_getElem? g2)
      exact (k.cell j c a g1 g2).mono (fun b ob q1 q2 => ⟨by rw [upd_ne (show b ≠ D from fun z => q2 (by rw [z]; exact l))]; exact q1, q2⟩) (upd_ne ne) id id
  have own_ext : ∀ {H2 : Hp} {L2 : Ad} {m2 : List Addr} {o : HO}, Ext H1 L1 m1 H2 L2 m2 → Ext H1 L1 m1 (upd H2 D o) L2 m2 := fun {H2 L2 m2 o} x => by
    refine ⟨fun a ob q1 q2 => ?_, fun a q1 q2 q3 => ?_, x.pre, fun a ob q1 => ?_⟩
    · have ne : a ≠ D := fun z => by rw [z, hD] at q1; cases q1
      exact ⟨by rw [upd_ne ne]; exact (x.keep a ob q1 q2).1, (x.keep a ob q1 q2).2⟩
    · have ne : a ≠ D := fun z => by rw [z] at q3; exact q3 hD
      exact ⟨(x.res a q1 q2 q3).1, by rw [upd_ne ne]; exact (x.res a q1 q2 q3).2⟩
    · have ne : a ≠ D := fun z => by rw [z, hD] at q1; cases q1
      rw [upd_ne ne]; exact x.kind a ob q1
  refine ⟨fun i mm H2 => i ≤ xs.length ∧ mm = xs.length - i ∧ ∃ (L2 : Ad) (m2 : List Addr) (st2 : Mem) (acc : List V) (da rest : List PyData), Ext H1 L1 m1 H2 L2 m2 ∧ StOk K H2 L2 m2 st2 ∧ Stay ls s0 st2 ∧ H2 D = some (.lst acc) ∧ L2 D ∧ D ∉ m2 ∧
      RepA K H2 L2 acc da ∧ acc.length ≤ i ∧ lcLoop f ls s0 (xs.drop i) st2 = some (rest, st') ∧ ds = da ++ rest, ⟨xs.length, Nat.zero_le _, rfl, ?_⟩, ?_⟩
  · -- the start
    have nD : ¬ L1 D := k1.new hD
    have mD : D ∉ m1 := fun z => by
      obtain ⟨j, hj⟩ := List.getElem?_of_mem z
      have hl : j < s0.length := by rw [← k1.len]; exact (List.getElem?_eq_some_iff.mp hj).1
      obtain ⟨v0, q1⟩ := (k1.cell j s0[j] D (List.getElem?_eq_getElem hl) hj).has
      rw [hD] at q1; cases q1
    have kp : ∀ a ob, H1 a = some ob → ¬ L1 a → H1 a = some ob ∧ ¬ (L1 a ∨ a = D) := fun a ob q1 q2 => ⟨q1, fun z => z.elim q2 fun z => by rw [z, hD] at q1; cases q1⟩
    refine ⟨fun a => L1 a ∨ a = D, m1, s0, [], [], ds, ?_, ?_, fun _ _ => rfl, upd_same, .inr rfl, mD, .nil, Nat.zero_le _, by simpa using h2, rfl⟩
    · refine ⟨fun a ob q1 q2 => ?_, fun a q1 q2 q3 => ?_, ⟨[], by simp, by simp⟩, fun a ob q1 => ?_⟩
      · have ne : a ≠ D := fun z => by rw [z, hD] at q1; cases q1
        exact ⟨by rw [upd_ne ne]; exact q1, fun z => z.elim q2 ne⟩
      · have ne : a ≠ D := fun z => by rw [z] at q3; exact q3 hD
        exact ⟨.inl q1, upd_ne ne⟩
      · have ne : a ≠ D := fun z => by rw [z, hD] at q1; cases q1
        exact ⟨ob, by rw [upd_ne ne]; exact q1, rfl⟩
    · refine ⟨k1.len, k1.nd, fun a la => ?_, fun j c a g1 g2 => ?_⟩
      · by_cases ea : a = D
        · subst ea; rw [upd_same]; simp
        · rw [upd_ne ea]; exact k1.trk a (la.elim id fun z => absurd z ea)
      · have ne : a ≠ D := fun z => mD (z ▸ List.mem_of_getElem? g2)
        exact (k1.cell j c a g1 g2).mono (fun b ob q1 q2 => ⟨by rw [upd_ne (show b ≠ D from fun z => by rw [z, hD] at q1; cases q1)]; exact q1, (kp b ob q1 q2).2⟩) (upd_ne ne) .inl (fun z y => y.elim z ne)
  · rintro i mm H2 ⟨hi, rfl, L2, m2, st2, acc, da, rest, x2, k2, y2, hacc, lD, mD, ra, hl, hloop, hds⟩
    have z2 := hZ H2 L2 m2 st2 x2 k2 y2
    by_cases hlt : i < xs.length
    · refine .inr ⟨wd.goes i H2 L2 hlt z2, fun H5 => ∃ (L5 : Ad) (m5 : List Addr) (st5 : Mem) (acc : List V) (da rest : List PyData), Ext H1 L1 m1 H5 L5 m5 ∧ StOk K H5 L5 m5 st5 ∧ Stay ls s0 st5 ∧ H5 D = some (.lst acc) ∧ L5 D ∧ D ∉ m5 ∧
        RepA K H5 L5 acc da ∧ acc.length ≤ i + 1 ∧ lcLoop f ls s0 (xs.drop (i + 1)) st5 = some (rest, st') ∧ ds = da ++ rest, fun H5 nx => ⟨xs.length - (i + 1), by omega, hlt, rfl, nx⟩, fun x H3 hy => ?_⟩
      obtain ⟨g3, d, hd, rd⟩ := wd.yields i H2 L2 x H3 hlt z2 hy
      have hx : xs.drop i = d :: xs.drop (i + 1) := by
        rw [List.drop_eq_getElem_cons hlt]
        rw [List.getElem?_eq_getElem hlt] at hd
        cases hd
        rfl
      rw [hx] at hloop
      simp only [lcLoop, Option.bind_eq_some_iff, Prod.exists] at hloop
      obtain ⟨o, s5, hf1, hloop⟩ := hloop
      split at hloop
      · rename_i hstay
        simp only [Option.bind_eq_some_iff, Prod.exists, Option.some.injEq, Prod.mk.injEq] at hloop
        obtain ⟨rest', s6, hl1, hl2, hl3⟩ := hloop
        subst hl3
        rw [← hf] at hf1
        simp only [Option.bind_eq_some_iff, Prod.exists] at hf1
        obtain ⟨r1, hb, kk, s7, hcond, hf2⟩ := hf1
        have x3 := x2.trans (k2.ext g3)
        have k3 := k2.gr g3
        have hen3 := hen1.mono x3
        refine ⟨L2, m2, wipeR r vs0, .val d, r1, hen3, .val rd, hb, fun σ2 en2 hw => ⟨?_, L2, m2, r1, st2, kk, s7, en2, k3, hcond, fun H4 L4 m4 e4 k4 => ?_⟩⟩
        · rw [hw vs0 hin]
          exact wipe_wipe σ vs0
        · -- the place of the new list, carried on
          have carry : ∀ {Hn : Hp} {Ln : Ad} {mn : List Addr}, Ext H3 L2 m2 Hn Ln mn → Hn D = some (.lst acc) ∧ Ln D ∧ D ∉ mn := fun {Hn Ln mn} x => by
            have hD3 : H3 D = some (.lst acc) := g3 D _ hacc
            obtain ⟨q1, q2⟩ := x.res D lD mD (by rw [hD3]; simp)
            obtain ⟨more, p1, p2⟩ := x.pre
            refine ⟨q2.trans hD3, q1, fun z => ?_⟩
            rw [p1] at z
            rcases List.mem_append.mp z with z | z
            · exact mD z
            · have := p2 D z; rw [hD3] at this; cases this
          have ra3 : RepA K H3 L2 acc da := ra.gr g3
          cases kk with
          | false =>
            simp only [Bool.false_eq_true, if_false, Option.some.injEq, Prod.mk.injEq] at hf2 ⊢
            obtain ⟨rfl, rfl⟩ := hf2
            obtain ⟨c1, c2, c3⟩ := carry e4
            exact ⟨L4, m4, _, acc, da, rest', x3.trans e4, k4, hstay, c1, c2, c3, RepA.mono e4.keep _ _ ra3, by omega, hl1, by rw [hds, ← hl2]⟩
          | true =>
            simp only [if_true, Option.bind_eq_some_iff, Prod.exists, Option.some.injEq, Prod.mk.injEq] at hf2 ⊢
            obtain ⟨w, s8, hev, dd, s9, hfr, rfl, rfl⟩ := hf2
            refine ⟨L4, m4, r1, s7, w, s8, en2.mono e4, k4, hev, fun y H5 L5 m5 e5 k5 ry => ?_⟩
            obtain ⟨L6, k6, rdd, e6⟩ := frz_ok k5 ry hfr
            have e56 := (e4.trans e5).trans e6
            obtain ⟨c1, c2, c3⟩ := carry e56
            refine ⟨acc, c1, by omega, ?_⟩
            have kpD : ∀ a ob, H5 a = some ob → ¬ L6 a → upd H5 D (.lst (acc ++ [y])) a = some ob ∧ ¬ L6 a := fun a ob q1 q2 => ⟨by rw [upd_ne (show a ≠ D from fun z => q2 (by rw [z]; exact c2))]; exact q1, q2⟩
            refine ⟨L6, m5, _, acc ++ [y], da ++ [dd], rest', own_ext (x3.trans e56), own_ok k6 c2 c3, hstay, upd_same, c2, c3, ?_, by rw [List.length_append]; simp; omega, hl1, by rw [hds, ← hl2]; simp⟩
            exact RepA.mono kpD _ _ ((RepA.mono e56.keep _ _ ra3).append (.one rdd))
      · cases hloop
    · -- the end
      have ei : i = xs.length := by omega
      subst ei
      refine .inl ⟨wd.stops H2 L2 z2, ?_⟩
      rw [List.drop_length] at hloop
      simp only [lcLoop, Option.some.injEq, Prod.mk.injEq] at hloop
      obtain ⟨rfl, rfl⟩ := hloop
      rw [List.append_nil] at hds
      subst hds
      have x02 := e1.trans x2
      have H0D : H D = none := by
        cases hh : H D with
        | none => rfl
        | some o => exact absurd hD (e1.stay D (by rw [hh]; simp))
      have eqH : H2 = upd (fun b => if b = D then none else H2 b) D (.lst acc) := by
        funext b
        by_cases eb : b = D
        · rw [eb, upd_same]; exact hacc
        · rw [upd_ne eb, if_neg eb]
      rw [eqH]
      have kp : ∀ a ob, H2 a = some ob → ¬ L2 a → (if a = D then none else H2 a) = some ob ∧ ¬ (L2 a ∧ a ≠ D) := fun a ob q1 q2 => ⟨by rw [if_neg (show ¬ a = D from fun z => q2 (by rw [z]; exact lD))]; exact q1, fun z => q2 z.1⟩
      refine q D (fun b => if b = D then none else H2 b) (fun a => L2 a ∧ a ≠ D) m2 acc ?_ ?_ (if_pos rfl) (by omega) (RepA.mono kp _ _ ra)
      · refine ⟨fun a ob q1 q2 => kp a ob (x02.keep a ob q1 q2).1 (x02.keep a ob q1 q2).2, fun a q1 q2 q3 => ?_, x02.pre, fun a ob q1 => ?_⟩
        · have ne : a ≠ D := fun z => by rw [z] at q3; exact q3 H0D
          exact ⟨⟨(x02.res a q1 q2 q3).1, ne⟩, by rw [if_neg ne]; exact (x02.res a q1 q2 q3).2⟩
        · have ne : a ≠ D := fun z => by rw [z, H0D] at q1; cases q1
          rw [if_neg ne]
          exact x02.kind a ob q1
      · refine ⟨k2.len, k2.nd, fun a la => by rw [if_neg la.2]; exact k2.trk a la.1, fun j c a g1 g2 => ?_⟩
        have ne : a ≠ D := fun z => mD (z ▸ List.mem_of_getElem? g2)
        exact (k2.cell j c a g1 g2).mono kp (if_neg ne) (fun z => ⟨z, ne⟩) (fun z y => z y.1)
section
variable {X : Cx} {C : CallF} {pos : Pos}
theorem f_lc {elt tg iter : Expr} {ifs : List Expr} {scope : Scope} {own : List (Str × Nat)} {ie : Ex} {t : Tg} {it : Itx} {cond : Exs} (hc : X.calm = true) (hN : X.N.Nodup) (hi : PI X tg iter (tI X.K C it)) (ok : BlkOk X.N X.env.scope scope own)
    (hg : ∀ (s : Shared) (H : Hp) (D : Addr) (cl : List (Str × Addr)) (fp : List Addr), PG (X.blk s H scope (compEnvC scope cl D X.env) fp) tg (tG X.K t))
    (ht : ∀ (s : Shared) (H : Hp) (D : Addr) (cl : List (Str × Addr)) (fp : List Addr), PTs (X.blk s H scope (compEnvC scope cl D X.env) fp) ifs (tC1 X.K C cond))
    (he : ∀ (s : Shared) (H : Hp) (D : Addr) (cl : List (Str × Addr)) (fp : List Addr), PE (X.blk s H scope (compEnvC scope cl D X.env) fp) elt (tE X.K C ie))
    (hs : ∀ x, foldedSetIterable iter X.env x = pure x) (hin : tgIn t (own.map (·.2)) = true) : PE X (.ListComp elt [⟨tg, iter, ifs, 0⟩] scope pos) (tF X.K C (.lc ie t it cond (own.map (·.2)))) :=
  (pe_lc hc hN hi ok hg ht he hs).weak fun _ _ _ h => lc_read hin h
end
end Sk

/-! Sk8: the soundness of statements -/
namespace Sk
open PySem PySem.Spec PyProof.Rows L2

def Fin1 (K : PySem.W.Frag) (H' : Hp) (L' : Ad) (m' : List Addr) (r' : Rho) (D : Ends) : Out → Prop
  | .nx => ∀ σ', EnvOk K H' L' m' r' σ' → D.nx σ' H'
  | .brk => ∀ σ', EnvOk K H' L' m' r' σ' → D.bk σ' H'
  | .ct => ∀ σ', EnvOk K H' L' m' r' σ' → D.ct σ' H'
  | .ret w => ∀ v, RepW K H' L' m' v w → D.rt v H'
def QS (K : PySem.W.Frag) (H : Hp) (L : Ad) (m : List Addr) (o : Out) (r' : Rho) (st' : Mem) (D : Ends) : Prop :=
  ∀ H' L' m', Ext H L m H' L' m' → StOk K H' L' m' st' → Fin1 K H' L' m' r' D o
def tS (K : PySem.W.Frag) (C : CallF) (s : Sx) : TS := fun D σ H => ∃ L m r st o r' st', EnvOk K H L m r σ ∧ StOk K H L m st ∧ ex C s r st = some (o, r', st') ∧ QS K H L m o r' st' D
def tSs (K : PySem.W.Frag) (C : CallF) (s : Sxs) : TS := fun D σ H => ∃ L m r st o r' st', EnvOk K H L m r σ ∧ StOk K H L m st ∧ exs C s r st = some (o, r', st') ∧ QS K H L m o r' st' D
section
variable {X : Cx} {C : CallF} {pos : Pos} {e a b c : Expr} {ia ib ic : Ex} {es : List Expr} {ies : Exs}
theorem x_nil : PSs X [] (tSs X.K C .nil) := pss_nil.weak fun D σ H ⟨L, m, r, st, o, r', st', he, hs, h, q⟩ => by
  simp only [exs] at h
  cases h
  exact q H L m .refl hs σ he
theorem x_cons {s : Stmt} {ss : List Stmt} {i : Sx} {is : Sxs} (h1 : PS X s (tS X.K C i)) (h2 : PSs X ss (tSs X.K C is)) : PSs X (s :: ss) (tSs X.K C (.cons i is)) :=
  (pss_cons h1 h2).weak fun D σ H ⟨L, m, r, st, o, r', st', he, hs, h, q⟩ => by
    simp only [exs, Option.bind_eq_some_iff, Prod.exists] at h
    obtain ⟨o1, r1, s1, g1, g2⟩ := h
    refine ⟨L, m, r, st, o1, r1, s1, he, hs, g1, fun H1 L1 m1 e1 k1 => ?_⟩
    cases o1 with
    | nx => exact fun σ1 en1 => ⟨L1, m1, r1, s1, o, r', st', en1, k1, g2, fun H2 L2 m2 e2 k2 => q H2 L2 m2 (e1.trans e2) k2⟩
    | brk => cases g2; exact q H1 L1 m1 e1 k1
    | ct => cases g2; exact q H1 L1 m1 e1 k1
    | ret w => cases g2; exact q H1 L1 m1 e1 k1
theorem x_asg {i : Nat} {x : Str} {pos' : Pos} (hN : X.N.Nodup) (hi : X.N[i]? = some x) (hx : Loc X.env.scope x) (hf : X.fn x = true ∨ X.env.scope.names.lookup x = some .local) (he : PE X e (tE X.K C ia)) (hs : swapsWith e (some (.Name x pos')) pos.line X.env = pure false) :
    PS X (.Assign [.Name x pos'] e pos) (tS X.K C (.asg i ia)) :=
  (ps_set hN hi hx he hs hf).weak fun D σ H ⟨L, m, r, st, o, r', st', he, hs, h, q⟩ => by
    simp only [ex, Option.bind_eq_some_iff, Prod.exists] at h
    obtain ⟨w, s1, h1, h2⟩ := h
    cases h2
    exact ⟨L, m, r, st, w, _, he, hs, h1, fun v H1 L1 m1 e1 k1 r1 => q H1 L1 m1 e1 k1 _ ((he.mono e1).set i r1)⟩
/-- a list made anew becomes a place of the store -/
theorem lay_new {K : PySem.W.Frag} {H1 : Hp} {L1 : Ad} {m1 : List Addr} {s1 : Mem} {p : Addr} {vs : List V} {ds : List PyData} (k1 : StOk K H1 L1 m1 s1) (hp : H1 p = none) (hz : vs.length ≤ sizeLine) (rv : RepA K H1 L1 vs ds) :
    ∃ L2 m2, Ext H1 L1 m1 (upd H1 p (.lst vs)) L2 m2 ∧ StOk K (upd H1 p (.lst vs)) L2 m2 (s1 ++ [(true, ds)]) ∧ m2[s1.length]? = some p := by
  have nL : ¬ L1 p := k1.new hp
  have nm : p ∉ m1 := fun z => by
    obtain ⟨j, hj⟩ := List.getElem?_of_mem z
    have hl : j < s1.length := by rw [← k1.len]; exact (List.getElem?_eq_some_iff.mp hj).1
    obtain ⟨v0, q1⟩ := (k1.cell j s1[j] p (List.getElem?_eq_getElem hl) hj).has
    rw [hp] at q1; cases q1
  have kp : ∀ a ob, H1 a = some ob → ¬ L1 a → upd H1 p (.lst vs) a = some ob ∧ ¬ (L1 a ∨ a = p) := fun a ob q1 q2 => by
    have ne : a ≠ p := ne_of_none q1 hp
    exact ⟨by rw [upd_ne ne]; exact q1, fun z => z.elim q2 ne⟩
  refine ⟨fun a => L1 a ∨ a = p, m1 ++ [p], ⟨kp, fun a q1 q2 q3 => ?_, ⟨[p], rfl, fun a z => by rw [List.mem_singleton.mp z]; exact hp⟩, fun a ob q1 => ?_⟩,
    ⟨by rw [List.length_append, List.length_append, k1.len]; rfl, ?_, fun a la => ?_, fun n c a g1 g2 => ?_⟩, ?_⟩
  · have ne : a ≠ p := fun z => by rw [z] at q3; exact q3 hp
    exact ⟨.inl q1, upd_ne ne⟩
  · have ne : a ≠ p := ne_of_none q1 hp
    exact ⟨ob, by rw [upd_ne ne]; exact q1, rfl⟩
  · rw [List.nodup_append]
    exact ⟨k1.nd, by simp, fun a ha b hb => fun z => nm (by rw [List.mem_singleton.mp hb] at z; rw [← z]; exact ha)⟩
  · by_cases ne : a = p
    · rw [ne]; rw [upd_same]; simp
    · rw [upd_ne ne]; exact k1.trk a (la.elim id fun z => absurd z ne)
  · by_cases hn : n < s1.length
    · rw [List.getElem?_append_left hn] at g1
      rw [List.getElem?_append_left (by rw [k1.len]; exact hn)] at g2
      have ne : a ≠ p := fun z => nm (z ▸ List.mem_of_getElem? g2)
      exact (k1.cell n c a g1 g2).mono kp (upd_ne ne) .inl (fun z y => y.elim z ne)
    · have h2 : n = s1.length := by
        have := (List.getElem?_eq_some_iff.mp g1).1
        rw [List.length_append] at this
        simp at this
        omega
      subst h2
      rw [List.getElem?_append_right (Nat.le_refl _)] at g1
      rw [List.getElem?_append_right (by rw [k1.len]; exact Nat.le_refl _), k1.len] at g2
      simp at g1 g2
      subst g1 g2
      exact .inl ⟨vs, upd_same, hz, RepA.mono kp _ _ rv, fun _ => .inr rfl, fun z => by cases z⟩
  · rw [List.getElem?_append_right (by rw [k1.len]; exact Nat.le_refl _), k1.len]
    simp
theorem lay_dic {K : PySem.W.Frag} {H1 : Hp} {L1 : Ad} {m1 : List Addr} {s1 : Mem} {p : Addr} {o : Obj} (k1 : StOk K H1 L1 m1 s1) (hp : H1 p = none) (hm : (p == sysModules) = false) :
    ∃ L2 m2, Ext H1 L1 m1 (upd H1 p (.ext (DicH p o []))) L2 m2 ∧ StOk K (upd H1 p (.ext (DicH p o []))) L2 m2 (s1 ++ [(true, [])]) ∧ m2[s1.length]? = some p := by
  have nm : p ∉ m1 := fun z => by
    obtain ⟨j, hj⟩ := List.getElem?_of_mem z
    have hl : j < s1.length := by rw [← k1.len]; exact (List.getElem?_eq_some_iff.mp hj).1
    obtain ⟨v0, q1⟩ := (k1.cell j s1[j] p (List.getElem?_eq_getElem hl) hj).has
    rw [hp] at q1; cases q1
  have kp : ∀ a ob, H1 a = some ob → ¬ L1 a → upd H1 p (.ext (DicH p o [])) a = some ob ∧ ¬ (L1 a ∨ a = p) := fun a ob q1 q2 => by
    have ne : a ≠ p := ne_of_none q1 hp
    exact ⟨by rw [upd_ne ne]; exact q1, fun z => z.elim q2 ne⟩
  refine ⟨fun a => L1 a ∨ a = p, m1 ++ [p], ⟨kp, fun a q1 q2 q3 => ⟨.inl q1, upd_ne (fun z => q3 (by rw [z]; exact hp))⟩, ⟨[p], rfl, fun a z => by rw [List.mem_singleton.mp z]; exact hp⟩, fun a ob q1 => ⟨ob, by rw [upd_ne (ne_of_none q1 hp)]; exact q1, rfl⟩⟩,
    ⟨by rw [List.length_append, List.length_append, k1.len]; rfl, ?_, fun a la => ?_, fun n c a g1 g2 => ?_⟩, ?_⟩
  · rw [List.nodup_append]
    exact ⟨k1.nd, by simp, fun a ha b hb => fun z => nm (by rw [List.mem_singleton.mp hb] at z; rw [← z]; exact ha)⟩
  · by_cases ne : a = p
    · rw [ne]; rw [upd_same]; simp
    · rw [upd_ne ne]; exact k1.trk a (la.elim id fun z => absurd z ne)
  · by_cases hn : n < s1.length
    · rw [List.getElem?_append_left hn] at g1
      rw [List.getElem?_append_left (by rw [k1.len]; exact hn)] at g2
      have ne : a ≠ p := fun z => nm (z ▸ List.mem_of_getElem? g2)
      exact (k1.cell n c a g1 g2).mono kp (upd_ne ne) .inl (fun z y => y.elim z ne)
    · have h2 : n = s1.length := by
        have := (List.getElem?_eq_some_iff.mp g1).1
        rw [List.length_append] at this
        simp at this
        omega
      subst h2
      rw [List.getElem?_append_right (Nat.le_refl _)] at g1
      rw [List.getElem?_append_right (by rw [k1.len]; exact Nat.le_refl _), k1.len] at g2
      simp at g1 g2
      subst g1 g2
      exact .inr ⟨o, [], upd_same, Nat.zero_le _, hm, .nil, fun _ => .inr rfl, fun z => by cases z⟩
  · rw [List.getElem?_append_right (by rw [k1.len]; exact Nat.le_refl _), k1.len]
    simp
/-- the reading of a name's store, from a list made anew -/
theorem new_read {K : PySem.W.Frag} {i : Nat} {f : Fx} {D : Ends} {σ : Slots} {H : Hp} (h : tS K C (.new i f) D σ H) : tF K C f σ H fun x H1 => D.nx (σ.set i (some x)) H1 := by
  obtain ⟨L, m, r, st, o, r', st', he, hs, h, q⟩ := h
  simp only [ex, Option.bind_eq_some_iff, Prod.exists] at h
  obtain ⟨ds, s1, h1, h2⟩ := h
  cases h2
  refine ⟨L, m, r, st, ds, s1, he, hs, h1, fun p H1 L1 m1 vs e1 k1 hp hz rv => ?_⟩
  obtain ⟨L2, m2, e2, k2, g2⟩ := lay_new k1 hp hz rv
  exact q _ _ _ (e1.trans e2) k2 _ (((he.mono e1).mono e2).set i (.loc g2 ⟨_, upd_same⟩))
/-- a list made anew is handed back as a place -/
theorem x_retF {f : Fx} (he : PE X e (tF X.K C f)) : PS X (.Return (some e) pos) (tS X.K C (.retF f)) :=
  (ps_ret he).weak fun D σ H ⟨L, m, r, st, o, r', st', he, hs, h, q⟩ => by
    simp only [ex, Option.bind_eq_some_iff, Prod.exists] at h
    obtain ⟨ds, s1, h1, h2⟩ := h
    cases h2
    refine ⟨L, m, r, st, ds, s1, he, hs, h1, fun p H1 L1 m1 vs e1 k1 hp hz rv => ?_⟩
    obtain ⟨L2, m2, e2, k2, g2⟩ := lay_new k1 hp hz rv
    exact q _ _ _ (e1.trans e2) k2 _ (.loc g2 ⟨_, upd_same⟩)
theorem x_new {i : Nat} {x : Str} {pos' : Pos} {f : Fx} (hN : X.N.Nodup) (hi : X.N[i]? = some x) (hx : Loc X.env.scope x) (hf : X.fn x = true ∨ X.env.scope.names.lookup x = some .local) (he : PE X e (tF X.K C f)) (hs : swapsWith e (some (.Name x pos')) pos.line X.env = pure false) :
    PS X (.Assign [.Name x pos'] e pos) (tS X.K C (.new i f)) :=
  (ps_set hN hi hx he hs hf).weak fun D σ H h => new_read h
theorem asg_read {K : PySem.W.Frag} {i : Nat} {f : Fx} {D : Ends} {σ : Slots} {H : Hp} (h : tS K C (.asg i (.fr f)) D σ H) : tF K C f σ H fun x H1 => D.nx (σ.set i (some x)) H1 := by
  obtain ⟨L, m, r, st, o, r', st', he, hs, h, q⟩ := h
  simp only [ex, ev, Option.bind_eq_some_iff, Prod.exists] at h
  obtain ⟨w, s1, ⟨ds, s2, h1, h3⟩, h2⟩ := h
  cases h3
  cases h2
  refine ⟨L, m, r, st, ds, _, he, hs, h1, fun p H1 L1 m1 vs e1 k1 hp hz rv => ?_⟩
  have e2 := k1.ext (Gr.new (o := .lst vs) hp)
  exact q _ L1 m1 (e1.trans e2) (k1.gr (.new hp)) _ (((he.mono e1).mono e2).set i (.val (.lst upd_same (k1.new hp) hz (rv.gr (.new hp)))))
/-- name = [..] on one line -/
theorem x_lc {i : Nat} {x : Str} {py spos : Pos} {elt tg iter : Expr} {ifs : List Expr} {scope : Scope} {own : List (Str × Nat)} {ie : Ex} {t : Tg} {it : Itx} {cond : Exs} (hc : X.calm = true) (hN : X.N.Nodup) (hy : X.N[i]? = some x) (hyl : X.env.scope.names.lookup x = some .local)
    (hsw : swapsWith (.ListComp elt [⟨tg, iter, ifs, 0⟩] scope pos) (some (.Name x py)) spos.line X.env = pure true) (hi : PI X tg iter (tI X.K C it)) (ok : BlkOk X.N X.env.scope scope own)
    (hg : ∀ (s : Shared) (H : Hp) (D : Addr) (cl : List (Str × Addr)) (fp : List Addr), PG (X.blk s H scope (compEnvC scope cl D X.env) fp) tg (tG X.K t))
    (ht : ∀ (s : Shared) (H : Hp) (D : Addr) (cl : List (Str × Addr)) (fp : List Addr), PTs (X.blk s H scope (compEnvC scope cl D X.env) fp) ifs (tC1 X.K C cond))
    (he : ∀ (s : Shared) (H : Hp) (D : Addr) (cl : List (Str × Addr)) (fp : List Addr), PE (X.blk s H scope (compEnvC scope cl D X.env) fp) elt (tE X.K C ie))
    (hs : ∀ x, foldedSetIterable iter X.env x = pure x) (hin : tgIn t (own.map (·.2)) = true) :
    PS X (.Assign [.Name x py] (.ListComp elt [⟨tg, iter, ifs, 0⟩] scope pos) spos) (tS X.K C (.asg i (.fr (.lc ie t it cond (own.map (·.2)))))) ∧
    PS X (.Assign [.Name x py] (.ListComp elt [⟨tg, iter, ifs, 0⟩] scope pos) spos) (tS X.K C (.new i (.lc ie t it cond (own.map (·.2))))) :=
  ⟨(ps_setLc hc hN hy hyl hsw hi ok hg ht he hs).weak fun D σ H h => lc_read hin (asg_read h), (ps_setLc hc hN hy hyl hsw hi ok hg ht he hs).weak fun D σ H h => lc_read hin (new_read h)⟩
theorem x_asgT {t : Expr} {ts : Tgs} (he : PE X e (tE X.K C ia)) (hg : PG X t (tG X.K (.tup ts))) (hs : swapsWithSole [t] e pos.line X.env = pure false) (hw : swappedStores [t] e X.env = pure none) (h1 : (assignEach [t] X.env).map (·.2) = [assign t X.env]) :
    PS X (.Assign [t] e pos) (tS X.K C (.asgT ts ia)) :=
  (ps_asg he hg hs hw h1).weak fun D σ H ⟨L, m, r, st, o, r', st', he, hs, h, q⟩ => by
    simp only [ex, Option.bind_eq_some_iff, Prod.exists] at h
    obtain ⟨w, s1, h1, r1, h2, h3⟩ := h
    cases h3
    exact ⟨L, m, r, st, w, _, he, hs, h1, fun v H1 L1 m1 e1 k1 rv => ⟨L1, m1, r, w, _, he.mono e1, rv, h2, fun σ' en _ => q H1 L1 m1 e1 k1 σ' en⟩⟩
theorem sets2 {K : PySem.W.Frag} {H : Hp} {L : Ad} {m : List Addr} {i j : Nat} {r r1 : Rho} {σ : Slots} {vs : List V} {ws : List W} (he : EnvOk K H L m r σ) (rv : RepWs K H L m vs ws) (h : sets r [i, j] ws = some r1) : ∃ v w, vs = [v, w] ∧ EnvOk K H L m r1 ((σ.set i (some v)).set j (some w)) := by
  cases rv with
  | nil => simp [sets] at h
  | cons a1 t1 =>
    cases t1 with
    | nil => simp [sets] at h
    | cons a2 t2 =>
      cases t2 with
      | cons _ _ => simp [sets] at h
      | nil =>
        simp only [sets] at h
        cases h
        exact ⟨_, _, rfl, (he.set i a1).set j a2⟩
theorem sets3 {K : PySem.W.Frag} {H : Hp} {L : Ad} {m : List Addr} {i j l : Nat} {r r1 : Rho} {σ : Slots} {vs : List V} {ws : List W} (he : EnvOk K H L m r σ) (rv : RepWs K H L m vs ws) (h : sets r [i, j, l] ws = some r1) :
    ∃ u v w, vs = [u, v, w] ∧ EnvOk K H L m r1 (((σ.set i (some u)).set j (some v)).set l (some w)) := by
  cases rv with
  | nil => simp [sets] at h
  | cons a1 t1 =>
    cases t1 with
    | nil => simp [sets] at h
    | cons a2 t2 =>
      cases t2 with
      | nil => simp [sets] at h
      | cons a3 t3 =>
        cases t3 with
        | cons _ _ => simp [sets] at h
        | nil =>
          simp only [sets] at h
          cases h
          exact ⟨_, _, _, rfl, ((he.set i a1).set j a2).set l a3⟩
theorem x_par2 {i j : Nat} {x y : Str} {px py pt : Pos} {kt k2 pt2} (hc : X.calm = true) (hN : X.N.Nodup) (hi : X.N[i]? = some x) (hj : X.N[j]? = some y) (hij : i ≠ j)
    (hx : X.env.scope.names.lookup x = some .local) (hy : X.env.scope.names.lookup y = some .local) (ha : PA X [a, b] (tA X.K C ies))
    (hw : swappedStores [.Tuple [.Name x px, .Name y py] kt pt] (.Tuple [a, b] k2 pt2) X.env = pure (some [x, y])) :
    PS X (.Assign [.Tuple [.Name x px, .Name y py] kt pt] (.Tuple [a, b] k2 pt2) pos) (tS X.K C (.par [i, j] ies)) :=
  (ps_par hc hN hi hj hij hx hy ha hw rfl).weak fun D σ H ⟨L, m, r, st, o, r', st', he, hs, h, q⟩ => by
    simp only [ex, Option.bind_eq_some_iff, Prod.exists] at h
    obtain ⟨ws, s1, h1, r1, h2, h3⟩ := h
    cases h3
    refine ⟨L, m, r, st, ws, _, he, hs, h1, fun vs H1 L1 m1 e1 k1 rv => ?_⟩
    obtain ⟨v, w, rfl, en⟩ := sets2 (he.mono e1) rv h2
    exact ⟨v, w, rfl, q H1 L1 m1 e1 k1 _ en⟩
theorem x_par3 {i j l : Nat} {x y z : Str} {px py pz pt : Pos} {kt k2 pt2} (hc : X.calm = true) (hN : X.N.Nodup) (hi : X.N[i]? = some x) (hj : X.N[j]? = some y) (hl : X.N[l]? = some z) (hij : i ≠ j) (hil : i ≠ l) (hjl : j ≠ l)
    (hx : X.env.scope.names.lookup x = some .local) (hy : X.env.scope.names.lookup y = some .local) (hz : X.env.scope.names.lookup z = some .local) (ha : PA X [a, b, c] (tA X.K C ies))
    (hw : swappedStores [.Tuple [.Name x px, .Name y py, .Name z pz] kt pt] (.Tuple [a, b, c] k2 pt2) X.env = pure (some [x, y, z])) :
    PS X (.Assign [.Tuple [.Name x px, .Name y py, .Name z pz] kt pt] (.Tuple [a, b, c] k2 pt2) pos) (tS X.K C (.par [i, j, l] ies)) :=
  (ps_par3 hc hN hi hj hl hij hil hjl hx hy hz ha hw rfl).weak fun D σ H ⟨L, m, r, st, o, r', st', he, hs, h, q⟩ => by
    simp only [ex, Option.bind_eq_some_iff, Prod.exists] at h
    obtain ⟨ws, s1, h1, r1, h2, h3⟩ := h
    cases h3
    refine ⟨L, m, r, st, ws, _, he, hs, h1, fun vs H1 L1 m1 e1 k1 rv => ?_⟩
    obtain ⟨u, v, w, rfl, en⟩ := sets3 (he.mono e1) rv h2
    exact ⟨u, v, w, rfl, q H1 L1 m1 e1 k1 _ en⟩
theorem x_expr (he : PE X e (tE X.K C ia)) (hs : swapsWith e none pos.line X.env = pure false) : PS X (.Expr e pos) (tS X.K C (.expr ia)) :=
  (ps_expr he hs).weak fun D σ H ⟨L, m, r, st, o, r', st', he, hs, h, q⟩ => by
    simp only [ex, Option.bind_eq_some_iff, Prod.exists] at h
    obtain ⟨w, s1, h1, h2⟩ := h
    cases h2
    exact ⟨L, m, r, st, w, _, he, hs, h1, fun v H1 L1 m1 e1 k1 _ => q H1 L1 m1 e1 k1 _ (he.mono e1)⟩
theorem x_ret (he : PE X e (tE X.K C ia)) : PS X (.Return (some e) pos) (tS X.K C (.ret ia)) :=
  (ps_ret he).weak fun D σ H ⟨L, m, r, st, o, r', st', he, hs, h, q⟩ => by
    simp only [ex, Option.bind_eq_some_iff, Prod.exists] at h
    obtain ⟨w, s1, h1, h2⟩ := h
    cases h2
    exact ⟨L, m, r, st, w, _, he, hs, h1, fun v H1 L1 m1 e1 k1 rv => q H1 L1 m1 e1 k1 v rv⟩
theorem x_retN : PS X (.Return none pos) (tS X.K C .retN) := ps_retN.weak fun D σ H ⟨L, m, r, st, o, r', st', he, hs, h, q⟩ => by
  simp only [ex] at h
  cases h
  exact q H L m .refl hs _ (.val .non)
theorem x_pass : PS X (.Pass pos) (tS X.K C .pass) := ps_pass.weak fun D σ H ⟨L, m, r, st, o, r', st', he, hs, h, q⟩ => by
  simp only [ex] at h
  cases h
  exact q H L m .refl hs σ he
theorem x_brk : PS X (.Break pos) (tS X.K C .brk) := ps_break.weak fun D σ H ⟨L, m, r, st, o, r', st', he, hs, h, q⟩ => by
  simp only [ex] at h
  cases h
  exact q H L m .refl hs σ he
theorem x_ctn : PS X (.Continue pos) (tS X.K C .ctn) := ps_continue.weak fun D σ H ⟨L, m, r, st, o, r', st', he, hs, h, q⟩ => by
  simp only [ex] at h
  cases h
  exact q H L m .refl hs σ he
theorem x_ite {ts fs : List Stmt} {its ifs : Sxs} (hc : PT X c (tT X.K C ic)) (ht : PSs X ts (tSs X.K C its)) (hf : PSs X fs (tSs X.K C ifs)) : PS X (.If c ts fs pos) (tS X.K C (.ite ic its ifs)) :=
  (ps_if hc ht hf).weak fun D σ H ⟨L, m, r, st, o, r', st', he, hs, h, q⟩ => by
    simp only [ex, Option.bind_eq_some_iff, Prod.exists] at h
    obtain ⟨x, s1, h1, h2⟩ := h
    split at h2
    · refine ⟨L, m, r, st, true, s1, he, hs, h1, fun H1 L1 m1 e1 k1 => iteT ?_⟩
      exact ⟨L1, m1, r, s1, o, r', st', he.mono e1, k1, h2, fun H2 L2 m2 e2 k2 => q H2 L2 m2 (e1.trans e2) k2⟩
    · refine ⟨L, m, r, st, false, s1, he, hs, h1, fun H1 L1 m1 e1 k1 => iteF ?_⟩
      exact ⟨L1, m1, r, s1, o, r', st', he.mono e1, k1, h2, fun H2 L2 m2 e2 k2 => q H2 L2 m2 (e1.trans e2) k2⟩
    · cases h2
theorem x_aug {i : Nat} {x : Str} {pos' : Pos} {op : Operator} {o : BOp} (hN : X.N.Nodup) (hi : X.N[i]? = some x) (hx : Loc X.env.scope x) (hf : X.fn x = true ∨ X.env.scope.names.lookup x = some .local) (he : PE X e (tE X.K C ia))
    (ho : PIp X op fun x y H Q => ∃ i j d, x = .int i ∧ y = .int j ∧ bop o (.int i) (.int j) = some d ∧ ∀ v, (∀ K L, Rep K H L v d) → Q v H) : PS X (.AugAssign (.Name x pos') op e pos) (tS X.K C (.aug i o ia)) :=
  (ps_aug hN hi hx he ho hf).weak fun D σ H ⟨L, m, r, st, oo, r', st', he, hs, h, q⟩ => by
    simp only [ex, Option.bind_eq_some_iff, Prod.exists, id] at h
    obtain ⟨w, ⟨ow, h0, h0'⟩, y, s1, h1, h2⟩ := h
    subst h0'
    split at h2
    · rename_i i0 j0
      simp only [Option.bind_eq_some_iff] at h2
      obtain ⟨d, h3, h4⟩ := h2
      cases h4
      obtain ⟨v, hv, rv⟩ := he.get i _ h0
      cases rv with | val rv =>
      cases rv
      refine ⟨_, hv, L, m, r, st, _, _, he, hs, h1, fun v H1 L1 m1 e1 k1 rv => ?_⟩
      cases rv with | val rv =>
      cases rv
      exact ⟨i0, j0, d, rfl, rfl, h3, fun v hv => q H1 L1 m1 e1 k1 _ ((he.mono e1).set i (.val (hv _ _)))⟩
    · cases h2
theorem dic_get_some {K : PySem.W.Frag} {H : Hp} {L : Ad} : ∀ {xs : List (List Int × Addr × Value)} {kvs : List PyData} {ks : List Int}, Paired (DEnt K H L) xs kvs → (atKey xs ks).isSome = (dget kvs ks).isSome
  | [], _, ks, h => by cases h; rfl
  | x :: xs, _, ks, h => by
    cases h with
    | @cons _ p _ kvs hx ht =>
      obtain ⟨v, dv, rfl, q2, q3, q4⟩ := hx
      have ek : pairI (.tuple [.tuple (x.1.map .int), dv]) = some (x.1, dv) := by simp [pairI, keyI, intsD_mapI]
      unfold dget
      rw [List.findSome?_cons]
      by_cases hk : x.1 = ks
      · have e1 : dgetP ks (.tuple [.tuple (x.1.map .int), dv]) = some dv := by simp only [dgetP, ek, Option.bind_some]; rw [if_pos hk]
        rw [e1]
        simp [atKey, hk]
      · have e1 : dgetP ks (.tuple [.tuple (x.1.map .int), dv]) = none := by simp only [dgetP, ek, Option.bind_some]; rw [if_neg hk]
        have ih := dic_get_some (ks := ks) ht
        rw [e1]
        unfold dget at ih
        rw [← ih]
        unfold atKey
        rw [List.find?_cons]
        simp [hk]
theorem dic_putAt {K : PySem.W.Frag} {H : Hp} {L : Ad} {v : V} {u : Value} {d : PyData} {ks : List Int} (rv : RelV v u) (rd : Rep K H L v d) : ∀ {xs : List (List Int × Addr × Value)} {kvs : List PyData}, Paired (DEnt K H L) xs kvs → Paired (DEnt K H L) (xs.map (putAt ks u)) (kvs.map fun p => if (dgetP ks p).isSome = true then mkP ks d else p)
  | [], _, h => by cases h; exact .nil
  | x :: xs, _, h => by
    cases h with
    | @cons _ p _ kvs hx ht =>
      refine .cons ?_ (dic_putAt rv rd ht)
      obtain ⟨v0, dv, rfl, q2, q3, q4⟩ := hx
      have ek : pairI (.tuple [.tuple (x.1.map .int), dv]) = some (x.1, dv) := by simp [pairI, keyI, intsD_mapI]
      unfold putAt
      by_cases hk : x.1 = ks
      · have e1 : dgetP ks (.tuple [.tuple (x.1.map .int), dv]) = some dv := by simp only [dgetP, ek, Option.bind_some]; rw [if_pos hk]
        simp only []
        rw [if_pos hk, e1, if_pos (show (some dv).isSome = true from rfl), ← hk]
        exact ⟨v, d, rfl, q2, rv, rd⟩
      · have e1 : dgetP ks (.tuple [.tuple (x.1.map .int), dv]) = none := by simp only [dgetP, ek, Option.bind_some]; rw [if_neg hk]
        simp only []
        rw [if_neg hk, e1, if_neg (by simp)]
        exact ⟨v0, dv, rfl, q2, q3, q4⟩
theorem dic_put {K : PySem.W.Frag} {H : Hp} {L : Ad} {v : V} {u : Value} {d : PyData} {ks : List Int} {b : Addr} {xs : List (List Int × Addr × Value)} {kvs : List PyData} (rv : RelV v u) (rd : Rep K H L v d) (rb : Rep K H L (.ref b) (.tuple (ks.map .int))) (h : Paired (DEnt K H L) xs kvs) : Paired (DEnt K H L) (storedH xs ks b u) (dput kvs ks d) := by
  unfold storedH dput
  rw [dic_get_some h]
  by_cases g : (dget kvs ks).isSome = true
  · rw [if_pos g, if_pos g]
    exact dic_putAt rv rd h
  · rw [if_neg g, if_neg g]
    exact Paired.snoc h ⟨v, d, rfl, rb, rv, rd⟩
theorem stored_len {xs : List (List Int × Addr × Value)} {ks : List Int} {b : Addr} {u : Value} : (storedH xs ks b u).length ≤ xs.length + 1 := by
  unfold storedH
  split <;> simp
theorem dic_set {K : PySem.W.Frag} {H : Hp} {L : Ad} {m : List Addr} {st : Mem} {n : Nat} {a : Addr} {ds ds' : List PyData} {o : Obj} {xs xs' : List (List Int × Addr × Value)} (s : StOk K H L m st) (h : st[n]? = some (true, ds)) (hm : m[n]? = some a) (hx : H a = some (.ext (DicH a o xs))) (hs : (a == sysModules) = false) (la : L a) (hz : xs'.length ≤ sizeLine) (r : Paired (DEnt K H L) xs' ds') (o' : Obj) :
    StOk K (upd H a (.ext (DicH a o' xs'))) L m (st.set n (true, ds')) ∧ Ext H L m (upd H a (.ext (DicH a o' xs'))) L m := by
  have am : a ∈ m := List.mem_of_getElem? hm
  have kp : ∀ b ob, H b = some ob → ¬ L b → upd H a (.ext (DicH a o' xs')) b = some ob ∧ ¬ L b := fun b ob q z => ⟨by rw [upd_ne (show b ≠ a from fun e => z (by rw [e]; exact la))]; exact q, z⟩
  have hn : n < st.length := (List.getElem?_eq_some_iff.mp h).1
  refine ⟨⟨by rw [List.length_set]; exact s.len, s.nd, fun b l => ?_, fun k c b g1 g2 => ?_⟩, ⟨kp, fun b l hb _ => ⟨l, by rw [upd_ne (show b ≠ a from fun e => hb (by rw [e]; exact am))]⟩, ⟨[], by simp, by simp⟩, fun b ob z => ?_⟩⟩
  · by_cases e : b = a
    · subst e; rw [upd_same]; simp
    · rw [upd_ne e]; exact s.trk b l
  · by_cases hk : n = k
    · subst hk
      rw [List.getElem?_set_self hn] at g1
      cases g1
      rw [hm] at g2
      cases g2
      exact .inr ⟨o', xs', upd_same, hz, hs, Paired.mapP r fun x d ⟨v, dv, y1, y2, y3, y4⟩ => ⟨v, dv, y1, Rep.mono kp _ _ y2, y3, Rep.mono kp _ _ y4⟩, fun _ => la, fun z => by cases z⟩
    · rw [List.getElem?_set_ne hk] at g1
      have hne : b ≠ a := fun z => hk ((List.getElem?_inj (List.getElem?_eq_some_iff.mp hm).1 s.nd).mp (by rw [hm, g2, z]))
      exact (s.cell k c b g1 g2).mono kp (upd_ne hne) id id
  · by_cases e : b = a
    · subst e; rw [hx] at z; cases z; exact ⟨_, upd_same, rfl⟩
    · exact ⟨ob, by rw [upd_ne e]; exact z, rfl⟩
/-- the store of an item -/
theorem x_setI {i : Expr} {spos : Pos} (hu : X.A.units + 1 < cLine) (ha : PE X a (tE X.K C ia)) (hi : PE X i (tE X.K C ib)) (he : PE X e (tE X.K C ic)) (hs : swapsWithSole [.Subscript a i spos] e pos.line X.env = pure false)
    (hw : swappedStores [.Subscript a i spos] e X.env = pure none) (h1 : (assignEach [.Subscript a i spos] X.env).map (·.2) = [assign (.Subscript a i spos) X.env])
    (hz : ∀ v, assign (.Subscript a i spos) X.env v = (do let ov ← holding [v] (eval a X.env); let iv ← holding [v, ov] (eval i X.env); standAt spos; holding [v, ov, iv] (setItem ov iv v); release [v, ov, iv] [])) :
    PS X (.Assign [.Subscript a i spos] e pos) (tS X.K C (.setI ia ib ic)) :=
  (ps_asg he (pg_sub ha hi (PSet.or set_list (set_dic hu)) hz) hs hw h1).weak fun D σ H ⟨L, m, r, st, o, r', st', he, hs, h, q⟩ => by
    simp only [ex, Option.bind_eq_some_iff, Prod.exists] at h
    obtain ⟨z, s1, h1, x, s2, h2, y, s3, h3, d, s4, h4, h5⟩ := h
    split at h5
    · rename_i n k
      split at h5
      · rename_i ds hn
        simp only [Option.bind_eq_some_iff] at h5
        obtain ⟨j, h6, h7⟩ := h5
        cases h7
        refine ⟨L, m, r, st, z, s1, he, hs, h1, fun v1 H1 L1 m1 e1 k1 r1 => ⟨L1, m1, r, s1, _, s2, he.mono e1, k1, h2, fun v2 H2 L2 m2 e2 k2 r2 => ⟨L2, m2, r, s2, _, s3, (he.mono e1).mono e2, k2, h3, fun v3 H3 L3 m3 e3 k3 r3 => ?_⟩⟩⟩
        have r1' := (r1.mono e2).mono e3
        cases r2 with | @loc a0 _ r2 r2l =>
        cases r3 with | val r3 =>
        cases r3
        obtain ⟨L4, k4, rd, e4⟩ := frz_ok k3 r1' h4
        have hm := e3.get r2
        have hml := e3.lst r2l
        obtain ⟨vs0, q1, q2, q3, _⟩ := k4.cellL n _ a0 hn hm hml
        have q3 : RepA X.K H3 L4 vs0 ds := q3
        obtain ⟨k5, e5⟩ := st_put k4 hn hm hml (q3.set j rd) (by rw [List.length_set]; exact q2)
        refine .inl ⟨a0, vs0, k, j, rfl, rfl, q1, by rw [q3.length]; exact h6, ?_⟩
        have e := (((e1.trans e2).trans e3).trans e4).trans e5
        exact q _ L4 m3 e k5 σ (he.mono e)
      · cases h5
    · rename_i n k
      split at h5
      · rename_i ds hn
        simp only [Option.bind_eq_some_iff] at h5
        obtain ⟨ks, h6, h7⟩ := h5
        split at h7
        · rename_i hlt
          cases h7
          obtain rfl := keyI_of h6
          refine ⟨L, m, r, st, z, s1, he, hs, h1, fun v1 H1 L1 m1 e1 k1 r1 => ⟨L1, m1, r, s1, _, s2, he.mono e1, k1, h2, fun v2 H2 L2 m2 e2 k2 r2 => ⟨L2, m2, r, s2, _, s3, (he.mono e1).mono e2, k2, h3, fun v3 H3 L3 m3 e3 k3 r3 => ?_⟩⟩⟩
          have r1' := (r1.mono e2).mono e3
          cases r2 with | @dic a0 _ r2 r2l =>
          obtain ⟨b, rfl, hb⟩ := (RepR.val (RepT.val (by cases r3 with | val r3 => exact r3))).keyT
          obtain ⟨L4, k4, rd, e4⟩ := frz_ok k3 r1' h4
          have hm := e3.get r2
          obtain ⟨o0, xs, q1, q2, q3, q4, q5, _⟩ := (k4.cell n _ a0 hn hm).dct (e3.dct r2l)
          have q4 : Paired (DEnt X.K H3 L4) xs ds := q4
          have hlen : xs.length = ds.length := Paired.length q4
          have rk : Rep X.K H3 L4 (.ref b) (.tuple (ks.map .int)) := by
            cases r3 with | val r3 => exact Rep.mono e4.keep _ _ r3
          refine .inr ⟨a0, b, o0, ks, xs, rfl, rfl, hb, q1, dic_keys q4, q3, q2, fun o' u ru => ?_⟩
          have hz' : (storedH xs ks b u).length ≤ sizeLine := by
            have := stored_len (xs := xs) (ks := ks) (b := b) (u := u)
            have := line_lt (show xs.length < lineN by rw [hlen]; exact hlt)
            omega
          obtain ⟨k5, e5⟩ := dic_set k4 hn hm q1 q3 (q5 rfl) hz' (dic_put ru rd rk q4) o'
          have e := (((e1.trans e2).trans e3).trans e4).trans e5
          exact q _ L4 m3 e k5 σ (he.mono e)
        · cases h7
      · cases h5
    · cases h5
/-- name = {} -/
theorem x_newD {i : Nat} {x : Str} {pos' pd : Pos} (hN : X.N.Nodup) (hi : X.N[i]? = some x) (hx : Loc X.env.scope x) (hf : X.fn x = true ∨ X.env.scope.names.lookup x = some .local) (hs : swapsWith (.Dict [] [] pd) (some (.Name x pos')) pos.line X.env = pure false) :
    PS X (.Assign [.Name x pos'] (.Dict [] [] pd) pos) (tS X.K C (.newD i)) :=
  (ps_set hN hi hx pe_dnewE hs hf).weak fun D σ H ⟨L, m, r, st, o, r', st', he, hs, h, q⟩ => by
    simp only [ex] at h
    cases h
    intro p ob hp hm
    obtain ⟨L2, m2, e2, k2, g2⟩ := lay_dic (o := ob) hs hp hm
    exact q _ _ _ e2 k2 _ ((he.mono e2).set i (.dic g2 ⟨_, upd_same⟩))
theorem x_while {body : List Stmt} {ib : Sxs} (hp : PassesOwn (model X.prog X.w) X.A X.env X.xe) (hc : PT X c (tT X.K C ic)) (hb : PSs X body (tSs X.K C ib)) : PS X (.While c body [] pos) (tS X.K C (.whl ic ib)) :=
  (ps_while hp hc hb).weak fun D σ H ⟨L, m, r, st, o, r', st', he, hs, h, q⟩ => by
    simp only [ex] at h
    obtain ⟨n, h⟩ := whl_has h
    refine ⟨fun n σ2 H2 => ∃ L2 m2 r2 st2, Ext H L m H2 L2 m2 ∧ EnvOk X.K H2 L2 m2 r2 σ2 ∧ StOk X.K H2 L2 m2 st2 ∧ whlN (fun r st => (ev C ic r st).bind fun (x, s1) => match x with
      | .val (.bool k) => some (k, s1)
      | _ => none) (fun r st => exs C ib r st) n r2 st2 = some (o, r', st'), ⟨n, L, m, r, st, .refl, he, hs, h⟩, ?_⟩
    rintro n σ2 H2 ⟨L2, m2, r2, st2, e2, en2, k2, h2⟩
    cases n with
    | zero => simp [whlN] at h2
    | succ n =>
      simp only [whlN, Option.bind_eq_some_iff, Prod.exists] at h2
      obtain ⟨k, s1, ⟨x, s1', h3, h4⟩, h5⟩ := h2
      split at h4
      · cases h4
        refine ⟨L2, m2, r2, st2, k, _, en2, k2, h3, fun H3 L3 m3 e3 k3 => ?_⟩
        have e23 := e2.trans e3
        have en3 := en2.mono e3
        cases k with
        | false =>
          simp only [Bool.false_eq_true, if_false, Option.some.injEq, Prod.mk.injEq] at h5
          obtain ⟨rfl, rfl, rfl⟩ := h5
          exact iteF (q H3 L3 m3 e23 k3 σ2 en3)
        | true =>
          simp only [if_true, Option.bind_eq_some_iff, Prod.exists] at h5
          obtain ⟨ob, r1, s2, h6, h7⟩ := h5
          refine iteT ⟨fun σ' H' => ∃ L5 m5 r5 st5, Ext H L m H' L5 m5 ∧ EnvOk X.K H' L5 m5 r5 σ' ∧ StOk X.K H' L5 m5 st5 ∧ whlN (fun r st => (ev C ic r st).bind fun (x, s1) => match x with
            | .val (.bool k) => some (k, s1)
            | _ => none) (fun r st => exs C ib r st) n r5 st5 = some (o, r', st'), fun σ' H' z => ⟨n, Nat.lt_succ_self _, z⟩, L3, m3, r2, _, ob, r1, s2, en3, k3, h6, fun H4 L4 m4 e4 k4 => ?_⟩
          cases ob with
          | nx => exact fun σ4 en4 => ⟨L4, m4, r1, s2, e23.trans e4, en4, k4, h7⟩
          | ct => exact fun σ4 en4 => ⟨L4, m4, r1, s2, e23.trans e4, en4, k4, h7⟩
          | brk => cases h7; exact q H4 L4 m4 (e23.trans e4) k4
          | ret w => cases h7; exact q H4 L4 m4 (e23.trans e4) k4
      · cases h4
theorem x_for {tg iter : Expr} {t : Tg} {it : Itx} {body : List Stmt} {ib : Sxs} (hp : PassesOwn (model X.prog X.w) X.A X.env X.xe) (hc : X.calm = true) (hi : PI X tg iter (tI X.K C it)) (hg : PG X tg (tG X.K t)) (hb : PSs X body (tSs X.K C ib))
    (hs : ∀ x, foldedSetIterable iter X.env x = pure x) : PS X (.For tg iter body [] pos) (tS X.K C (.for1 t it ib)) :=
  (ps_for hp hc hi hg hb hs).weak fun D σ H ⟨L, m, r, st, o, r', st', he, hs, h, q⟩ => by
    simp only [ex, Option.bind_eq_some_iff, Prod.exists] at h
    obtain ⟨xs, ls, s0, h1, h2⟩ := h
    refine ⟨L, m, r, st, xs, ls, s0, he, hs, h1, fun J H1 L1 m1 e1 k1 hz ⟨Z, wd, hZ⟩ => ?_⟩
    generalize hf : (fun x r st => (bindT t (.val x) r).bind fun r1 => exs C ib r1 st) = f at h2
    refine ⟨fun i mm σ2 H2 => i ≤ xs.length ∧ mm = xs.length - i ∧ ∃ L2 m2 r2 st2, Ext H1 L1 m1 H2 L2 m2 ∧ EnvOk X.K H2 L2 m2 r2 σ2 ∧ StOk X.K H2 L2 m2 st2 ∧ Stay ls s0 st2 ∧ forLoop f ls s0 (xs.drop i) r2 st2 = some (o, r', st'),
      ⟨xs.length, Nat.zero_le _, rfl, L1, m1, r, s0, .refl, he.mono e1, k1, fun _ _ => rfl, by simpa using h2⟩, ?_⟩
    rintro i mm σ2 H2 ⟨hi, rfl, L2, m2, r2, st2, x2, en2, k2, y2, hloop⟩
    have z2 := hZ H2 L2 m2 st2 x2 k2 y2
    by_cases hlt : i < xs.length
    · refine .inr ⟨wd.goes i H2 L2 hlt z2, fun σ5 H5 => ∃ L5 m5 r5 st5, Ext H1 L1 m1 H5 L5 m5 ∧ EnvOk X.K H5 L5 m5 r5 σ5 ∧ StOk X.K H5 L5 m5 st5 ∧ Stay ls s0 st5 ∧ forLoop f ls s0 (xs.drop (i + 1)) r5 st5 = some (o, r', st'),
        fun σ5 H5 nx => ⟨xs.length - (i + 1), by omega, hlt, rfl, nx⟩, fun x H3 hy => ?_⟩
      obtain ⟨g3, d, hd, rd⟩ := wd.yields i H2 L2 x H3 hlt z2 hy
      have hx : xs.drop i = d :: xs.drop (i + 1) := by
        rw [List.drop_eq_getElem_cons hlt]
        rw [List.getElem?_eq_getElem hlt] at hd
        cases hd
        rfl
      rw [hx] at hloop
      simp only [forLoop, Option.bind_eq_some_iff, Prod.exists] at hloop
      obtain ⟨ob, r1, s1, hf1, hloop⟩ := hloop
      rw [← hf] at hf1
      simp only [Option.bind_eq_some_iff] at hf1
      obtain ⟨r3, hb1, hb2⟩ := hf1
      have x3 := x2.trans (k2.ext g3)
      have k3 := k2.gr g3
      refine ⟨L2, m2, r2, .val d, r3, en2.mono (k2.ext g3), .val rd, hb1, fun σ3 en3 _ => ⟨L2, m2, r3, st2, ob, r1, s1, en3, k3, hb2, fun H4 L4 m4 e4 k4 => ?_⟩⟩
      have x4 := x3.trans e4
      cases ob with
      | nx =>
        simp only at hloop
        split at hloop
        · rename_i hst
          exact fun σ4 en4 => ⟨L4, m4, r1, s1, x4, en4, k4, hst, hloop⟩
        · cases hloop
      | ct =>
        simp only at hloop
        split at hloop
        · rename_i hst
          exact fun σ4 en4 => ⟨L4, m4, r1, s1, x4, en4, k4, hst, hloop⟩
        · cases hloop
      | brk => cases hloop; exact q H4 L4 m4 (e1.trans x4) k4
      | ret w => cases hloop; exact q H4 L4 m4 (e1.trans x4) k4
    · have ei : i = xs.length := by omega
      subst ei
      rw [List.drop_length] at hloop
      simp only [forLoop, Option.some.injEq, Prod.mk.injEq] at hloop
      obtain ⟨rfl, rfl, rfl⟩ := hloop
      exact .inl ⟨wd.stops H2 L2 z2, q H2 L2 m2 (e1.trans x2) k2 σ2 en2⟩
end
end Sk

/-! Sk9: calls of defs -/
namespace Sk
open PySem PySem.Spec PyProof.Rows L2

/-- the def at f comes to what c tells -/
structure FnG (P : Program) (w : World) (K : PySem.W.Frag) (mg : Str → Option Value) (base : Heap) (k : Nat) (f : Addr) (fd : FuncData) (ps : List Str) (c : List W → Mem → Option (W × Mem)) : Prop where
  run : ∀ (A : Around) (outer : List Env) (s : Shared) (H : Hp) (args : Args) (us : List Value) (vs : List V) (L : Ad) (m : List Addr) (ws : List W) (st : Mem) (x : W) (st' : Mem) (Q : VK),
    A.guards = some [] → Room k A → Env0 P w K mg base A outer s H → BindsTo s fd args (ps.zip us) → Vals vs us → ws.length = ps.length → StOk K H L m st → RepWs K H L m vs ws →
    c ws st = some (x, st') → QE K H L m x st' Q → codeAny (PySem.model P w) A (.call (.ref f) args) (CR CX0 outer P w H s Q E0) s

theorem leave_ok {K : PySem.W.Frag} {H H' : Hp} {L L' : Ad} {m m' : List Addr} {st s1 st' : Mem} {live : Bool} {v : V} {w w' : W} (k0 : StOk K H L m st) (e : Ext H L m H' L' m') (k : StOk K H' L' m' s1) (r : RepW K H' L' m' v w)
    (h : leave live st.length s1 w = some (w', st')) : ∃ Lb mb, Ext H L m H' Lb mb ∧ StOk K H' Lb mb st' ∧ RepW K H' Lb mb v w' := by
  obtain ⟨more, hp, hf⟩ := e.pre
  have hlen : m.length = st.length := k0.len
  have e0 : Ext H L m H' L' m := ⟨e.keep, e.res, ⟨[], by simp, by simp⟩, e.kind⟩
  have ndm : m.Nodup := k0.nd
  have mget : ∀ {n : Nat}, n < m.length → m'[n]? = m[n]? := fun {n} hn => by rw [hp, List.getElem?_append_left hn]
  have hle : m.length ≤ m'.length := by rw [hp, List.length_append]; omega
  have tk : StOk K H' L' m (s1.take st.length) := by
    refine ⟨?_, ndm, k.trk, fun n c a g1 g2 => ?_⟩
    · rw [List.length_take, ← k.len, ← hlen]; omega
    · have hn : n < m.length := (List.getElem?_eq_some_iff.mp g2).1
      rw [List.getElem?_take_of_lt (by omega)] at g1
      exact k.cell n c a g1 (by rw [mget hn]; exact g2)
  have put : ∀ {a : Addr} {n : Nat} {c : Sk.Cell}, m'[n]? = some a → ¬ n < st.length → s1[n]? = some c → H a = none ∧ a ∉ m ∧ Ext H L m H' L' (m ++ [a]) ∧ StOk K H' L' (m ++ [a]) (s1.take st.length ++ [c]) ∧ (m ++ [a])[st.length]? = some a := fun {a n c} r hn h1 => by
    have hmo : a ∈ more := by
      rw [hp, List.getElem?_append_right (by omega)] at r
      exact List.mem_of_getElem? r
    have ha : H a = none := hf a hmo
    have nam : a ∉ m := fun z => by
      have nd := k.nd
      rw [hp, List.nodup_append] at nd
      exact nd.2.2 a z a hmo rfl
    have q := k.cell n c a h1 r
    refine ⟨ha, nam, ⟨e.keep, e.res, ⟨[a], rfl, fun b z => by rw [List.mem_singleton.mp z]; exact ha⟩, e.kind⟩, ⟨?_, ?_, k.trk, fun j c' b g1 g2 => ?_⟩, ?_⟩
    · rw [List.length_append, List.length_append, tk.len]; rfl
    · rw [List.nodup_append]
      exact ⟨ndm, by simp, fun x hx y hy => fun z => nam (by rw [List.mem_singleton.mp hy] at z; rw [← z]; exact hx)⟩
    · by_cases hj : j < m.length
      · rw [List.getElem?_append_left hj] at g2
        rw [List.getElem?_append_left (by rw [← tk.len]; exact hj)] at g1
        exact tk.cell j c' b g1 g2
      · have ej : j = m.length := by
          have := (List.getElem?_eq_some_iff.mp g2).1
          rw [List.length_append] at this
          simp at this
          omega
        subst ej
        rw [List.getElem?_append_right (Nat.le_refl _)] at g2
        rw [List.getElem?_append_right (by rw [tk.len]; exact Nat.le_refl _), tk.len] at g1
        simp at g1 g2
        subst g1 g2
        exact q
    · rw [← hlen, List.getElem?_append_right (Nat.le_refl _)]
      simp
  cases r with
  | val r => cases h; exact ⟨L', m, e0, tk, .val r⟩
  | scr r l => cases h; exact ⟨L', m, e0, tk, .scr r l⟩
  | dic _ _ => cases h
  | @pk a b n us ds g1 g2 g3 g4 g5 g6 =>
    simp only [leave] at h
    split at h
    · rename_i hn
      cases h
      exact ⟨L', m, e0, tk, .pk g1 g2 (by rw [← mget (by omega)]; exact g3) g4 g5 g6⟩
    · rename_i hn
      obtain ⟨c, h1, h2⟩ := Option.bind_eq_some_iff.mp h
      split at h2
      · cases h2
        obtain ⟨ha, nam, x1, x2, x3⟩ := put g3 hn h1
        exact ⟨L', m ++ [b], x1, x2, .pk g1 g2 x3 g4 g5 g6⟩
      · cases h2
  | @loc a n r rl =>
    simp only [leave] at h
    split at h
    · rename_i hn
      cases h
      exact ⟨L', m, e0, tk, .loc (by rw [← mget (by omega)]; exact r) rl⟩
    · rename_i hn
      obtain ⟨c, h1, h2⟩ := Option.map_eq_some_iff.mp h
      obtain ⟨ha, nam, x1, x2, x3⟩ := put r hn h1
      obtain ⟨vs, q1, q2, q3, q4, q5⟩ := k.cellL n c a h1 r rl
      split at h2
      · cases h2
        exact ⟨L', m ++ [a], x1, x2, .loc x3 rl⟩
      · cases h2
        have kp : ∀ b o, H' b = some o → ¬ L' b → H' b = some o ∧ ¬ (L' b ∧ b ≠ a) := fun b o z y => ⟨z, fun t => y t.1⟩
        refine ⟨fun b => L' b ∧ b ≠ a, m, ⟨fun b o z y => kp b o (e.keep b o z y).1 (e.keep b o z y).2, fun b z y t => ⟨⟨(e.res b z y t).1, fun q => t (by rw [q]; exact ha)⟩, (e.res b z y t).2⟩, ⟨[], by simp, by simp⟩, e.kind⟩,
          ⟨tk.len, ndm, fun b z => k.trk b z.1, fun j c' b g1 g2 => ?_⟩, .val (.lst q1 (fun z => z.2 rfl) q2 (RepA.mono kp _ _ q3))⟩
        have ne : b ≠ a := fun z => nam (z ▸ List.mem_of_getElem? g2)
        exact (tk.cell j c' b g1 g2).mono kp rfl (fun z => ⟨z, ne⟩) fun z y => z y.1

theorem start_env {K : PySem.W.Frag} {H : Hp} {L : Ad} {m : List Addr} {N : List Str} {vs : List V} {ws : List W} {ns : Nat} (r : RepWs K H L m vs ws) (hn : ns = N.length) : EnvOk K H L m (ws.map some ++ List.replicate (ns - ws.length) none) (L2.start N vs) := by
  have hl : vs.length = ws.length := Paired.length r
  subst hn
  refine ⟨by unfold L2.start; simp [hl], fun i w h => ?_⟩
  unfold L2.start
  by_cases hi : i < ws.length
  · rw [List.getElem?_append_left (by simpa using hi), List.getElem?_map] at h
    rw [List.getElem?_append_left (by simpa [hl] using hi), List.getElem?_map]
    have key : ∀ {vs : List V} {ws : List W} {i : Nat} {w : W}, RepWs K H L m vs ws → ws[i]? = some w → ∃ v, vs[i]? = some v ∧ RepW K H L m v w := by
      intro vs ws i w r
      induction r generalizing i with
      | nil => intro h; simp at h
      | cons a t ih =>
        intro h
        cases i with
        | zero => simp at h; subst h; exact ⟨_, by simp, a⟩
        | succ i => obtain ⟨v, h1, h2⟩ := ih (by simpa using h); exact ⟨v, by simpa using h1, h2⟩
    cases hw : ws[i]? with
    | none => rw [hw] at h; cases h
    | some w' =>
      rw [hw] at h
      cases h
      obtain ⟨v, h1, h2⟩ := key r hw
      exact ⟨v, by rw [h1]; rfl, h2⟩
  · rw [List.getElem?_append_right (by simpa using hi), List.getElem?_replicate] at h
    split at h <;> cases h

/-- a def of the text, by its body's compiled form -/
theorem fnG_of {P : Program} {w : World} {K : PySem.W.Frag} {mg : Str → Option Value} {base : Heap} {x qual : Str} {st : Stmt} {f : Addr} {fd : FuncData} {N ps : List Str} {k : Nat} {pr : Prg} {j : Nat} {d : Fd}
    (F : Fun K x qual st f fd) (S : FnScope N ps (defScope st)) (hp : pr[j]? = some d) (hnp : d.np = ps.length) (hns : d.ns = N.length)
    (hbody : ∀ (cdv : Value) (A : Around) (outer : List Env) (s : Shared) (H : Hp), Room k (A.deeper (envOfC qual (defScope st) s.heap.objs.size f cdv)) → A.guards = some [] →
      PSs (cxOf CX0 P w K mg base N qual (defScope st) f cdv A outer s H E0).nox (defBody st) (tSs K (callN pr k) d.body)) : FnG P w K mg base (k + 1) f fd ps (callN pr (k + 1) j) := by
  obtain ⟨oc, od, kV, doc, pm, an, cdv, ct, osl, rfl, lk, hcd⟩ := F.ex
  refine ⟨fun A outer s H args us vs L m ws stm xw st' Q hgd hr e0 hb r hl k0 rw hc q => ?_⟩
  simp only [callN, hp, Option.bind_some] at hc
  split at hc
  · rename_i hwl
    simp only [Option.bind_eq_some_iff, Prod.exists] at hc
    obtain ⟨o, r', s1, h1, w0, h2, h3⟩ := hc
    have hvl : vs.length = ps.length := by rw [Paired.length rw]; exact hl
    -- the machine's side, by the layer's own rule with the promise that fits this one call
    have F' : Fun K x qual st f _ := F
    have KX : K.In s.heap := e0.mod.kin.keeps fun b ob e => (e0.bs b ob e).1
    have lim : s.heap.NoLimit := e0.mod.nolimit.keeps fun b ob e => (e0.bs b ob e).1
    have hkind : ∀ y ∈ ps.zip us, (defScope st).names.lookup y.1 = some .local ∨
        ((defScope st).names.lookup y.1 = some .cell ∧ ((cellsFrom (s.heap.objs.size + 1) (defScope st).names []).lookup y.1).isSome = true) := by
      rintro ⟨n, v⟩ hy
      rcases S.par n (List.of_mem_zip hy).1 with z | z
      · exact Or.inl z
      · exact Or.inr ⟨z, PySem.W.cellsFrom_some _ _ _ (Or.inl z)⟩
    refine codeAny_call_function hr.depth (KX _ _ lk) rfl S.co S.gen rfl (PySem.W.codeRec_of KX hcd) (hb _ _ _ _ ?_)
    refine wpAny_newFunctionEnv_cells S.kind hkind fun env he s2 xx => ?_
    subst he
    refine ⟨lim.keeps xx.toInCall.keep, codeAny_func ?_⟩
    have I : Inv (cxOf CX0 P w K mg base N qual (defScope st) f cdv A outer s H E0) [] (L2.start N vs) H s2 := inv_start S hr.hd e0 hvl r xx
    have ht := (hbody cdv A outer s H (hr.deeper _) hgd).nox
    have fin : ∀ {v : V} {H' : Hp} {L' : Ad} {m' : List Addr}, Ext H L m H' L' m' → StOk K H' L' m' s1 → RepW K H' L' m' v w0 → Q v H' := fun {v H' L' m'} e1 k1 rv => by
      obtain ⟨Lb, mb, e2, k2, r2⟩ := leave_ok k0 e1 k1 rv h3
      exact q v H' Lb mb e2 k2 r2
    have hq : tSs K (callN pr k) d.body { nx := fun _ H' => Q .non H', rt := Q } (L2.start N vs) H := by
      refine ⟨L, m, _, stm, o, r', s1, start_env rw hns, k0, h1, fun H' L' m' e1 k1 => ?_⟩
      cases o with
      | nx => cases h2; exact fun σ' _ => fin e1 k1 (.val .non)
      | ret w => cases h2; exact fun v rv => fin e1 k1 rv
      | brk => cases h2
      | ct => cases h2
    refine wpAny_mono (ht.run [] s2 (L2.start N vs) H _ I hq) (fun fl s' hs => ?_) fun e s' hs => hs
    have done : ∀ {σ' : Slots} {H' : Hp} {v : V} {u : Value}, Inv (cxOf CX0 P w K mg base N qual (defScope st) f cdv A outer s H E0) [] σ' H' s' → RelV v u → Q v H' → CE outer P w H s Q u s' :=
      fun {σ' H' v u} J rv q => ⟨v, H', J.os, J.bare, J.base, J.hok, rv, q⟩
    cases fl with
    | ret u =>
      obtain ⟨v, σ', H', J, rv, q⟩ := hs
      exact done J rv q
    | next =>
      obtain ⟨σ', H', J, q⟩ := hs
      exact done (v := V.non) (u := Value.none) J rfl q
    | brk => obtain ⟨_, _, _, q⟩ := hs; exact q.elim
    | cont => obtain ⟨_, _, _, q⟩ := hs; exact q.elim
  · cases hc

section
variable {X : Cx} {C : CallF} {pos p : Pos} {e : Expr} {es : List Expr} {ies : Exs} {x : Str} {f : Addr} {fd : FuncData} {ps : List Str} {k j : Nat}
theorem run_fnG {pins : List (Addr × Obj)} {σ : Slots} {H : Hp} {s : Shared} {Q : VK} {us : List Value} {vs : List V} {L : Ad} {m : List Addr} {ws : List W} {st st' : Mem} {w : W} (F : FnG X.prog X.w X.K X.mg X.base k f fd ps (C j)) (hgd : X.A.guards = some []) (hr : Room k X.A) (hb : Binds X.K fd ps [])
    (I : Inv X pins σ H s) (r : Vals vs us) (hl : ws.length = ps.length) (k0 : StOk X.K H L m st) (rw : RepWs X.K H L m vs ws) (hc : C j ws st = some (w, st')) (q : QE X.K H L m w st' Q) : wpAny (PySem.model X.prog X.w) X.A (call (.ref f) us) (EP X pins σ Q) X.xe s := by
  have hlu : us.length = ps.length := by rw [← r.length, Paired.length rw]; exact hl
  have hb' := hb s us I.kIn (by rw [List.append_nil]; exact hlu)
  rw [List.append_nil] at hb'
  refine wpAny_call (codeAny_mono (F.run X.A X.stack s H ⟨us, []⟩ us vs L m ws st w st' Q hgd hr I.env0 hb' r hl k0 rw hc q) fun rr s' hq => ?_)
  cases rr with
  | error e => exact hq.elim
  | ok fl =>
    cases fl with
    | ret u => exact I.after hq
    | next => exact hq.elim
    | brk => exact hq.elim
    | cont => exact hq.elim
theorem s_call (F : FnG X.prog X.w X.K X.mg X.base k f fd ps (C j)) (hgd : X.A.guards = some []) (hr : Room k X.A) (hg : Gl X x) (hm : X.mg x = some (.ref f)) (hk : PySem.W.keepIn X.K (.ref f) = true) (hb : Binds X.K fd ps []) (hl : lenE ies = ps.length)
    (ha : PA X (e :: es) (tA X.K C ies)) (hdb : (x == ("__debug__" : Str)) = false) (he : starEach (e :: es) X.env = (false, eval e X.env) :: starEach es X.env) (hpl : (backTo pos (starEach es X.env)).any (·.1) = false) :
    PE X (.Call (.Name x p) (e :: es) [] pos) (tE X.K C (.call j ies)) := by
  refine ⟨fun pins s σ H Q I ⟨L, m, r, st, w, st', hen, hst, h, q⟩ => ?_⟩
  simp only [ev, Option.bind_eq_some_iff, Prod.exists] at h
  obtain ⟨ws, s1, h1, h2⟩ := h
  have hwl : ws.length = ps.length := by rw [evs_length ies h1]; exact hl
  refine wpAny_Call_Name_kw (ld_glob I hg hm ?_ hdb)
  refine PySem.W.callWith_K (h₀ := X.base) I.ok.mod.kin hk (thn (ha.run pos pins s σ H (fun vs H1 => ∃ L1 m1, Ext H L m H1 L1 m1 ∧ StOk X.K H1 L1 m1 s1 ∧ RepWs X.K H1 L1 m1 vs ws) I
    ⟨L, m, r, st, ws, s1, hen, hst, h1, fun vs H1 L1 m1 e1 k1 r1 => ⟨L1, m1, e1, k1, r1⟩⟩) fun us s2 ⟨vs, H1, I1, rv, L1, m1, e1, k1, r1⟩ => ⟨I1.kIn, ?_⟩) he hpl
  exact run_fnG F hgd hr hb I1 rv hwl k1 r1 h2 fun v H2 L2 m2 e2 k2 r2 => q v H2 L2 m2 (e1.trans e2) k2 r2
theorem s_call0 (F : FnG X.prog X.w X.K X.mg X.base k f fd ps (C j)) (hgd : X.A.guards = some []) (hr : Room k X.A) (hg : Gl X x) (hm : X.mg x = some (.ref f)) (hk : PySem.W.keepIn X.K (.ref f) = true) (hb : Binds X.K fd ps []) (hl : ps = [])
    (hdb : (x == ("__debug__" : Str)) = false) : PE X (.Call (.Name x p) [] [] pos) (tE X.K C (.call j .nil)) := by
  refine ⟨fun pins s σ H Q I ⟨L, m, r, st, w, st', hen, hst, h, q⟩ => ?_⟩
  simp only [ev, evs, Option.bind_some] at h
  refine wpAny_Call_Name_kw (ld_glob I hg hm ?_ hdb)
  exact PySem.W.callWith_K0 I.kIn hk (run_fnG (us := []) F hgd hr hb I .nil (by rw [hl]; rfl) hst .nil h q)
end
end Sk

/-! SkA: from the text to the small language, and its soundness for expressions -/
namespace Sk
open PySem PySem.Spec PyProof.Rows L2

structure SC where
  N : List Str
  sc : Scope
  fn : Str → Bool
structure Tab where
  con : List (Str × PyData)
  fns : List Str
  P : Prg
  free : List Str
  dic : List (Str × List (Str × PyData)) := []
def ixs (N : List Str) (x : Str) : Option Nat := if N[N.findIdx (· == x)]? = some x then some (N.findIdx (· == x)) else none
theorem ixs_ok {N : List Str} {x : Str} {i : Nat} (h : ixs N x = some i) : N[i]? = some x := by
  unfold ixs at h
  split at h
  · cases h; assumption
  · cases h
def dbg (x : Str) : Bool := x == ("__debug__" : Str) || x == ("__classdict__" : Str)
theorem dbg_ok {x : Str} (h : ¬ dbg x = true) : (x == ("__debug__" : Str)) = false ∧ (x == ("__classdict__" : Str)) = false := by
  unfold dbg at h
  rw [Bool.or_eq_true] at h
  exact ⟨Bool.eq_false_iff.mpr fun z => h (.inl z), Bool.eq_false_iff.mpr fun z => h (.inr z)⟩
def cstD : Const → Option PyData
  | .none => some .none
  | .bool b => some (.bool b)
  | .int i => some (.int i)
  | .str x => some (.str x)
  | _ => none
/-- a test that is no conditional expression -/
def tst : Expr → Bool
  | .IfExp .. => false
  | .BoolOp .Or [.Subscript .., _] _ => false
  | _ => true
def nstar : Expr → Bool
  | .Starred .. => false
  | _ => true
def nset : Expr → Bool
  | .Set .. => false
  | _ => true
def plainB : Expr → Bool
  | .Slice .. => false
  | _ => true
/-- a dict that is looked up at once, or one of the top's -/
def dicE (T : Tab) (S : SC) : Expr → Option (List (Str × PyData))
  | .Dict keys vals _ => (dispE keys vals).bind fun kvs => if kvs ≠ [] ∧ kvs.length ≤ 15 ∧ (kvs.map (·.1)).Nodup then some (litI kvs) else none
  | .Name x _ => if S.sc.names.lookup x = some .globalImplicit ∧ dbg x = false then T.dic.lookup x else none
  | _ => none
def nameE (T : Tab) (S : SC) (x : Str) : Option Ex := if dbg x then none else match S.sc.names.lookup x with
  | some .local => (ixs S.N x).map .var
  | some .cell => (ixs S.N x).map .var
  | some .free => (ixs S.N x).map .var
  | some .globalImplicit => (T.con.lookup x).map .con
  | _ => none
section
variable (f : Expr → Option Ex)
def argsE : List Expr → Option Exs
  | [] => some .nil
  | a :: r => if nstar a then (f a).bind fun ia => (argsE r).bind fun ir => some (.cons ia ir) else none
def boolE (op : BoolOp) : List Expr → Option Ex
  | [] => none
  | [a] => if tst a then f a else none
  | a :: b :: r => if tst a then (f a).bind fun ia => (boolE op (b :: r)).bind fun ir => match op with
    | .And => some (.and2 ia ir)
    | .Or => some (.or2 ia ir) else none
def cmpE (a : Expr) (ops : List CmpOp) (cs : List Expr) : Option Ex := match ops, cs with
  | [.Is], [.Constant .none _ _] => (f a).map .isN
  | [.IsNot], [.Constant .none _ _] => (f a).map .notN
  | [.Is], [.Constant (.bool b) _ _] => (f a).map (.isC b)
  | [.IsNot], [.Constant (.bool b) _ _] => (f a).map (.isC (!b))
  | [op], [b] => if behindInMarks op b then none else (cOp op).bind fun o => (f a).bind fun ia => (f b).bind fun ib => some (.cmp o ia ib)
  | [op, op'], [b, c] => if behindInMarks op' c then none else (cOp op).bind fun o => (cOp op').bind fun o' => (f a).bind fun ia => (f b).bind fun ib => (f c).bind fun ic => some (.chain o o' ia ib ic)
  | _, _ => none
def partE : Option Expr → Option Exs
  | none => some .nil
  | some e => (f e).map fun ie => .cons ie .nil
def b1 (x : Str) : Option Blt := if x == ("len" : Str) then some .len else if x == ("abs" : Str) then some .abs else if x == ("any" : Str) then some .any1 else if x == ("all" : Str) then some .all1 else if x == ("max" : Str) then some .max1 else if x == ("min" : Str) then some .min1 else if x == ("sum" : Str) then some .sum1 else none
def b1t (x : Str) : Option Blt := if x == ("int" : Str) then some .int1 else if x == ("tuple" : Str) then some .tup1 else if x == ("str" : Str) then some .str1 else none
def b2 (x : Str) : Option Blt := if x == ("min" : Str) then some .min2 else if x == ("max" : Str) then some .max2 else none
def tyE (T : Tab) (S : SC) : Expr → Option String
  | .Name x _ => if S.sc.names.lookup x = some .globalImplicit ∧ x ∈ T.free ∧ dbg x = false then tys.find? fun t => Str.ofString t == x else none
  | _ => none
def bltE (T : Tab) (S : SC) (x : Str) (args : List Expr) : Option Ex := match args with
  | [a] => if nstar a then (f a).bind fun ia => if x == ("list" : Str) then some (.fr (.listOf ia)) else match b1 x with
    | some b => some (.blt b (.cons ia .nil))
    | none => (b1t x).map fun b => .blt b (.cons ia .nil) else none
  | [a, b] => if nstar a && nstar b then (f a).bind fun ia => if x == ("isinstance" : Str) then match b with
      | .Tuple [u, u'] _ _ => (tyE T S u).bind fun U => (tyE T S u').bind fun U' => some (.blt (.isi [U, U']) (.cons ia .nil))
      | u => (tyE T S u).bind fun U => some (.blt (.isi [U]) (.cons ia .nil))
    else (f b).bind fun ib => (b2 x).map fun o => .blt o (.cons ia (.cons ib .nil)) else none
  | _ => none
def mtE (o : Expr) (m : Str) (args : List Expr) (same : Bool) : Option Ex := match o, args with
  | .Name x p, [e] => if same && nstar e then (f (.Name x p)).bind fun io => (f e).bind fun ie =>
      if m == ("append" : Str) then some (.mt .app io (.cons ie .nil)) else if m == ("extend" : Str) then some (.mt .ext io (.cons ie .nil)) else none else none
  | .Name x p, [] => if same then (f (.Name x p)).bind fun io => if m == ("pop" : Str) then some (.mt .pop io .nil) else none else none
  | .Name x p, [e, e2] => if same && nstar e && nstar e2 then (f (.Name x p)).bind fun io => (f e).bind fun ie => (f e2).bind fun ie2 =>
      if m == ("insert" : Str) then some (.mt .ins io (.cons ie (.cons ie2 .nil))) else none else none
  | _, _ => none
def glob (T : Tab) (S : SC) (x : Str) : Bool := decide (S.sc.names.lookup x = some .globalImplicit) && decide (x ∈ T.free) && !dbg x
def itE (T : Tab) (S : SC) (tup : Bool) (it : Expr) : Option Itx := match it with
  | .Call (.Name x p) args [] pos => match args with
    | [a] => if x == ("range" : Str) && glob T S x && nstar a then (f a).map .rng1 else if x == ("enumerate" : Str) && glob T S x && nstar a && tup then (f a).map .enum else (f it).map .seq
    | [a, b] => if x == ("range" : Str) && glob T S x && nstar a && nstar b then (f a).bind fun ia => (f b).map fun ib => .rng2 ia ib else if x == ("zip" : Str) && glob T S x && nstar a && nstar b && tup then match b with
        | .Call (.Name y _) [b2] [] _ => if y == ("reversed" : Str) && glob T S y && nstar b2 then (f a).bind fun ia => (f b2).map fun ib => .zipR ia ib else (f a).bind fun ia => (f b).map fun ib => .zip ia ib
        | b => (f a).bind fun ia => (f b).map fun ib => .zip ia ib
      else (f it).map .seq
    | _ => (f it).map .seq
  | _ => if nset it then (f it).map .seq else none
end
def isTup : Expr → Bool
  | .Tuple .. => true
  | _ => false
def okStore (S : SC) (x : Str) : Bool := decide (S.sc.names.lookup x = some .local) || (decide (S.sc.names.lookup x = some .cell) && S.fn x)
mutual
def tgE (S : SC) : Nat → Expr → Option Tg
  | n + 1, .Name x _ => if okStore S x then (ixs S.N x).map .name else none
  | n + 1, .Tuple ts _ _ => (tgsE S n ts).map .tup
  | _, _ => none
def tgsE (S : SC) : Nat → List Expr → Option Tgs
  | _, [] => some .nil
  | n + 1, t :: ts => if nstar t then (tgE S n t).bind fun it => (tgsE S n ts).bind fun its => some (.cons it its) else none
  | 0, _ :: _ => none
end
def blkSC (S : SC) (scope : Scope) : SC := ⟨S.N, relS scope S.sc, fun x => scope.names.lookup x == some .cell⟩
def ownOf (S : SC) (scope : Scope) : List (Str × Nat) := scope.names.filterMap fun (y, k) => if k == .local || k == .cell then (ixs S.N y).map fun i => (y, i) else none
def lcE (T : Tab) (rec : SC → Expr → Option Ex) (S : SC) (elt : Expr) (gens : List Comprehension) (scope : Scope) : Option Fx := match gens with
  | [⟨tg, iter, ifs, 0⟩] => (tgE (blkSC S scope) 9 tg).bind fun t => (itE (rec S) T S (isTup tg) iter).bind fun it =>
      (match ifs with
        | [] => some Exs.nil
        | [c] => if tst c then (rec (blkSC S scope) c).map fun ic => .cons ic .nil else none
        | _ => none).bind fun cond => (rec (blkSC S scope) elt).bind fun ie =>
        if blkC S.N S.sc scope (ownOf S scope) && tgIn t ((ownOf S scope).map Prod.snd) && nset iter then some (.lc ie t it cond ((ownOf S scope).map Prod.snd)) else none
  | _ => none
/-- list(reversed(e)) -/
def revE (f : Expr → Option Ex) (T : Tab) (S : SC) (x : Str) : List Expr → Option Ex
  | [.Call (.Name y _) [b] [] _] => if x == ("list" : Str) && (y == ("reversed" : Str) && (glob T S y && nstar b)) then (f b).map fun ib => .blt .rev1 (.cons ib .nil) else none
  | [.Call (.Name y _) [b, c] [] _] => if x == ("list" : Str) && (y == ("zip" : Str) && (glob T S y && (nstar b && nstar c))) then (f b).bind fun ib => (f c).map fun ic => .fr (.zipL (.cons ib (.cons ic .nil)))
      else if x == ("tuple" : Str) && (y == ("zip" : Str) && (glob T S y && (nstar b && nstar c))) then (f b).bind fun ib => (f c).map fun ic => .blt .tupZ (.cons ib (.cons ic .nil)) else none
  | _ => none
def maxdE (f : Expr → Option Ex) (T : Tab) (S : SC) (x : Str) : List Expr → List Keyword → Option Ex
  | [a], [⟨some k, d, _⟩] => if x == ("max" : Str) && (k == ("default" : Str) && (glob T S x && nstar a)) then (f a).bind fun ia => (f d).map fun id => .blt .maxd (.cons ia (.cons id .nil)) else none
  | _, _ => none
def callE (T : Tab) (rec : SC → Expr → Option Ex) (S : SC) (f : Expr) (args : List Expr) (kws : List Keyword) (pos : Pos) : Option Ex := match f, kws with
  | .Name x _, [] => if dbg x then none else if S.sc.names.lookup x = some .globalImplicit then match ixs T.fns x with
    | some j => (argsE (rec S) args).bind fun ies => if (T.P[j]?.map Fd.np) = some (lenE ies) then some (.call j ies) else none
    | none => if x ∈ T.free then match revE (rec S) T S x args with
        | some r => some r
        | none => bltE (rec S) T S x args else none else none
  | .Attribute o m apos, [] => mtE (rec S) o m args (apos.endLine == pos.line)
  | .Name x _, kws => maxdE (rec S) T S x args kws
  | _, _ => none
def stepE (T : Tab) (rec : SC → Expr → Option Ex) (S : SC) : Expr → Option Ex
  | .Name x _ => nameE T S x
  | .Constant c _ _ => (cstD c).map .con
  | .BinOp a op b _ => (bOp op).bind fun o => (rec S a).bind fun ia => (rec S b).bind fun ib => some (.bin o ia ib)
  | .UnaryOp .USub a _ => (rec S a).map .neg
  | .UnaryOp .Not a _ => if tst a then (rec S a).map .not1 else none
  | .IfExp c a b _ => if tst c then (rec S c).bind fun ic => (rec S a).bind fun ia => (rec S b).bind fun ib => some (.ife ic ia ib) else none
  | .BoolOp op vs _ => match op, vs with
    | .Or, [.Subscript a i p, b] => (rec S (.Subscript a i p)).bind fun ia => (rec S b).map fun ib => .orV ia ib
    | op, vs => boolE (rec S) op vs
  | .Compare a ops cs _ => cmpE (rec S) a ops cs
  | .Tuple es _ _ => (argsE (rec S) es).bind fun ies => if lenE ies ≤ lineN then some (.tup ies) else none
  | .List es _ => (argsE (rec S) es).bind fun ies => if lenE ies ≤ lineN then some (.fr (.disp ies)) else none
  | .ListComp elt gens scope _ => (lcE T rec S elt gens scope).map .fr
  | .Subscript a i _ => match i with
    | .Slice lo hi none _ => (rec S a).bind fun ia => (partE (rec S) lo).bind fun pl => (partE (rec S) hi).bind fun ph => some (.slc ia pl ph)
    | .Slice none none (some (.UnaryOp .USub (.Constant (.int 1) _ _) _)) _ => (rec S a).map fun ia => .blt .rev1 (.cons ia .nil)
    | .Slice none none (some st) _ => (rec S a).bind fun ia => (rec S st).map fun is => .blt .step1 (.cons ia (.cons is .nil))
    | i => if plainB i then match dicE T S a with
        | some kvs => (rec S i).map fun ii => .dlk kvs ii
        | none => (rec S a).bind fun ia => (rec S i).bind fun ii => some (.idx ia ii) else none
  | .Call f args kws pos => callE T rec S f args kws pos
  | _ => none
def cE (T : Tab) : Nat → SC → Expr → Option Ex
  | 0, _, _ => none
  | n + 1, S, e => stepE T (cE T n) S e

/-! ### soundness -/
/-- what the top has left, for the names of the text -/
structure XOk (X : Cx) (T : Tab) (k : Nat) : Prop where
  calm : X.calm = true
  grd : X.A.guards = some []
  room : Room k X.A
  nd : X.N.Nodup
  xe : X.xe = fun _ _ => False
  con : ∀ x d, T.con.lookup x = some d → ∃ u v, X.mg x = some u ∧ RelV v u ∧ ∀ H L, Rep X.K H L v d
  fns : ∀ x j d, T.fns[j]? = some x → T.P[j]? = some d → ∃ f fd ps, X.mg x = some (.ref f) ∧ PySem.W.keepIn X.K (.ref f) = true ∧ Binds X.K fd ps [] ∧ ps.length = d.np ∧
    FnG X.prog X.w X.K X.mg X.base k f fd ps (callN T.P k j)
  free : ∀ x ∈ T.free, X.mg x = none
  dic : ∀ x kvs, T.dic.lookup x = some kvs → DicAt X.w.params X.K X.mg x kvs
structure At (X : Cx) (S : SC) : Prop where
  N : X.N = S.N
  sc : X.env.scope = S.sc
  fn : X.fn = S.fn
def Good (X : Cx) (C : CallF) (e : Expr) (ie : Ex) : Prop := PE X e (tE X.K C ie) ∧ (tst e = true → PT X e (tT X.K C ie))
theorem XOk.blk {X : Cx} {T : Tab} {k : Nat} (x : XOk X T k) (s : Shared) (H : Hp) (scope : Scope) (cenv : Env) (fp : List Addr) : XOk (X.blk s H scope cenv fp) T k :=
  ⟨x.calm, x.grd, x.room, x.nd, rfl, x.con, x.fns, x.free, x.dic⟩
theorem At.blk {X : Cx} {S : SC} (a : At X S) (s : Shared) (H : Hp) (scope : Scope) (D : Addr) (cl : List (Str × Addr)) (fp : List Addr) : At (X.blk s H scope (compEnvC scope cl D X.env) fp) (blkSC S scope) :=
  ⟨a.N, by show relS scope X.env.scope = relS scope S.sc; rw [a.sc], rfl⟩
theorem star_cons {e : Expr} {es : List Expr} {env : Env} (h : nstar e = true) : starEach (e :: es) env = (false, eval e env) :: starEach es env := by
  cases e <;> first | rfl | (simp [nstar] at h; done)
theorem asg_cons {e : Expr} {es : List Expr} {env : Env} (h : nstar e = true) : assignEach (e :: es) env = (false, assign e env) :: assignEach es env := by
  cases e <;> first | rfl | (simp [nstar] at h; done)
theorem nset_ok {e : Expr} (h : nset e = true) (env : Env) (x : Value) : foldedSetIterable e env x = pure x := by
  cases e <;> first | rfl | (simp [nset] at h; done)
theorem plain_ok {e : Expr} (h : plainB e = true) : PlainIx e := by
  intro o i
  cases e <;> first | rfl | (simp [plainB] at h; done)
theorem args_star {f : Expr → Option Ex} {env : Env} {pos : Pos} : ∀ {es : List Expr} {ies : Exs}, argsE f es = some ies → (backTo pos (starEach es env)).any (·.1) = false
  | [], _, _ => rfl
  | a :: r, ies, h => by
    unfold argsE at h
    split at h
    · rename_i hn
      simp only [Option.bind_eq_some_iff] at h
      obtain ⟨ia, h1, ir, h2, h3⟩ := h
      rw [star_cons hn]
      unfold backTo at *
      rw [List.map_cons, List.any_cons]
      exact args_star (f := f) (env := env) (pos := pos) h2
    · cases h
section
variable {X : Cx} {T : Tab} {k : Nat} {S : SC} {f : Expr → Option Ex} {pos : Pos}
noncomputable abbrev CP (T : Tab) (k : Nat) : CallF := callN T.P k
theorem Room.units80 (r : Room k X.A) : X.A.units + 80 < cLine := by have := r.un; omega
theorem gl_of (a : At X S) {x : Str} (h : S.sc.names.lookup x = some .globalImplicit) : Gl X x := by
  show X.env.scope.names.lookup x = _
  rw [a.sc]
  exact h
theorem name_ok (ok : XOk X T k) (a : At X S) {x : Str} {ie : Ex} (h : nameE T S x = some ie) : Good X (CP T k) (.Name x pos) ie := by
  unfold nameE at h
  split at h
  · cases h
  · rename_i hd
    obtain ⟨d1, d2⟩ := dbg_ok hd
    have fin : ∀ {ie : Ex}, PE X (.Name x pos) (tE X.K (CP T k) ie) → Good X (CP T k) (.Name x pos) ie := fun p => ⟨p, fun _ => t_val p (by intro _; rfl)⟩
    have var : ∀ {i : Nat}, ixs S.N x = some i → Vis X.env.scope x → Good X (CP T k) (.Name x pos) (.var i) := fun hi hv => fin (s_var (by rw [a.N]; exact ixs_ok hi) hv d1 d2)
    split at h
    · rename_i hl
      obtain ⟨i, h1, rfl⟩ := Option.map_eq_some_iff.mp h
      exact var h1 (.inl (by rw [a.sc]; exact hl))
    · rename_i hl
      obtain ⟨i, h1, rfl⟩ := Option.map_eq_some_iff.mp h
      exact var h1 (.inr (.inl (by rw [a.sc]; exact hl)))
    · rename_i hl
      obtain ⟨i, h1, rfl⟩ := Option.map_eq_some_iff.mp h
      exact var h1 (.inr (.inr (by rw [a.sc]; exact hl)))
    · rename_i hl
      obtain ⟨d, h1, rfl⟩ := Option.map_eq_some_iff.mp h
      obtain ⟨u, v, q1, q2, q3⟩ := ok.con x d h1
      exact fin (s_con (pe_glob (gl_of a hl) q1 q2 d1) q3)
    · cases h
theorem cst_ok {c : Const} {j : Nat} {d : PyData} (h : cstD c = some d) : Good X (CP T k) (.Constant c j pos) (.con d) := by
  have fin : PE X (.Constant c j pos) (tE X.K (CP T k) (.con d)) → Good X (CP T k) (.Constant c j pos) (.con d) := fun p => ⟨p, fun _ => t_val p (by intro _; rfl)⟩
  cases c <;> simp only [cstD, Option.some.injEq, reduceCtorEq] at h <;> subst h
  · exact fin (s_con pe_non fun _ _ => .non)
  · exact fin (s_con pe_bl fun _ _ => .bl _)
  · exact fin (s_con pe_int fun _ _ => .int _)
  · exact fin (s_con pe_str fun _ _ => .str _)
theorem args_ok (hf : ∀ e ie, f e = some ie → Good X (CP T k) e ie) : ∀ {es : List Expr} {ies : Exs}, argsE f es = some ies → PA X es (tA X.K (CP T k) ies)
  | [], _, h => by cases h; exact s_nil
  | a :: r, ies, h => by
    unfold argsE at h
    split at h
    · rename_i hn
      simp only [Option.bind_eq_some_iff] at h
      obtain ⟨ia, h1, ir, h2, h3⟩ := h
      cases h3
      exact s_cons (hf a ia h1).1 (args_ok hf h2) (star_cons hn)
    · cases h
theorem bool_ok (hf : ∀ e ie, f e = some ie → Good X (CP T k) e ie) {op : BoolOp} : ∀ {vs : List Expr} {ie : Ex}, boolE f op vs = some ie → PE X (.BoolOp op vs pos) (tE X.K (CP T k) ie) ∧ PW X (.BoolOp op vs pos) (tT X.K (CP T k) ie)
  | [], _, h => by cases h
  | [a], ie, h => by
    unfold boolE at h
    split at h
    · rename_i ht
      obtain ⟨p, t⟩ := hf a ie h
      refine ⟨pe_one p, ?_⟩
      cases op
      · exact pw_and1 (t ht)
      · exact pw_or1 (t ht)
    · cases h
  | a :: b :: r, ie, h => by
    unfold boolE at h
    split at h
    · rename_i ht
      simp only [Option.bind_eq_some_iff] at h
      obtain ⟨ia, h1, ir, h2, h3⟩ := h
      obtain ⟨p, t⟩ := hf a ia h1
      obtain ⟨p2, t2⟩ := bool_ok hf h2
      cases op
      · cases h3; exact ⟨s_and p p2, t_and (t ht) t2⟩
      · cases h3; exact ⟨s_or p p2, t_or (t ht) t2⟩
    · cases h
theorem cmp_ok (ok : XOk X T k) (hf : ∀ e ie, f e = some ie → Good X (CP T k) e ie) {a : Expr} {ops : List CmpOp} {cs : List Expr} {ie : Ex} (h : cmpE f a ops cs = some ie) : Good X (CP T k) (.Compare a ops cs pos) ie := by
  have hu : X.A.units + 65 < cLine := by have := Room.units80 ok.room; omega
  unfold cmpE at h
  split at h
  · obtain ⟨ia, h1, rfl⟩ := Option.map_eq_some_iff.mp h
    exact ⟨(s_isN (hf a ia h1).1).1, fun _ => (s_isN (hf a ia h1).1).2⟩
  · obtain ⟨ia, h1, rfl⟩ := Option.map_eq_some_iff.mp h
    exact ⟨(s_notN (hf a ia h1).1).1, fun _ => (s_notN (hf a ia h1).1).2⟩
  · obtain ⟨ia, h1, rfl⟩ := Option.map_eq_some_iff.mp h
    exact ⟨(s_isC (hf a ia h1).1).1, fun _ => (s_isC (hf a ia h1).1).2⟩
  · obtain ⟨ia, h1, rfl⟩ := Option.map_eq_some_iff.mp h
    exact ⟨(s_isD (hf a ia h1).1).1, fun _ => (s_isD (hf a ia h1).1).2⟩
  · split at h
    · cases h
    rename_i hm
    simp only [Option.bind_eq_some_iff] at h
    obtain ⟨o, h0, ia, h1, ib, h2, h3⟩ := h
    cases h3
    have q := s_cmp (pos := pos) (op_cmpF hu h0) (by simpa using hm) (hf _ ia h1).1 (hf _ ib h2).1
    exact ⟨q.1, fun _ => q.2⟩
  · rename_i op op' b c
    split at h
    · cases h
    rename_i hm
    simp only [Option.bind_eq_some_iff] at h
    obtain ⟨o, h0, o', h0', ia, h1, ib, h2, ic, h3, h4⟩ := h
    cases h4
    have m : lastMarks [op, op'] [b, c] = false := by
      show behindInMarks op' c = false
      simpa using hm
    have c0 := op_cmpF hu h0
    have c0' := op_cmpF hu h0'
    exact ⟨(pe_chain c0 c0' (hf _ ia h1).1 (hf _ ib h2).1 (hf _ ic h3).1 m).weak fun _ _ _ z => chain_read z,
      fun _ => (pt_chain c0 c0' (hf _ ia h1).1 (hf _ ib h2).1 (hf _ ic h3).1 m).weak fun _ _ _ z => chain_read (tT_tE z)⟩
  · cases h
theorem part_okE (hf : ∀ e ie, f e = some ie → Good X (CP T k) e ie) {o : Option Expr} {p : Exs} (h : partE f o = some p) : PartOk X (CP T k) o p := by
  cases o with
  | none => cases h; exact .none
  | some e =>
    obtain ⟨ie, h1, rfl⟩ := Option.map_eq_some_iff.mp h
    exact .some (hf e ie h1).1
theorem call_val {g : Expr} {args : List Expr} {kws : List Keyword} {ie : Ex} (p : PE X (.Call g args kws pos) (tE X.K (CP T k) ie)) : Good X (CP T k) (.Call g args kws pos) ie := ⟨p, fun _ => t_val p (by intro _; rfl)⟩
theorem beq_str {x y : Str} (h : (x == y) = true) : x = y := by simpa using h
theorem ty_ok (ok : XOk X T k) (a : At X S) {u : Expr} {U : String} (h : tyE T S u = some U) : U ∈ tys ∧ PE X u (tC (.ty U)) ∧ nstar u = true := by
  unfold tyE at h
  split at h
  · rename_i x p
    split at h
    · rename_i hc
      obtain ⟨h1, h2, h3⟩ := hc
      have hm := List.mem_of_find?_eq_some h
      have he := List.find?_some h
      have hx : x = Str.ofString U := (beq_str he).symm
      refine ⟨hm, ?_, rfl⟩
      subst hx
      have hb : bootBuiltins (Str.ofString U) = some (.type U) := by
        simp only [tys, List.mem_cons, List.not_mem_nil, or_false] at hm
        rcases hm with rfl | rfl | rfl | rfl | rfl <;> decide +kernel
      have hn : Str.ofString U ≠ "__name__" := by
        simp only [tys, List.mem_cons, List.not_mem_nil, or_false] at hm
        rcases hm with rfl | rfl | rfl | rfl | rfl <;> decide +kernel
      exact pe_bltn (gl_of a h1) (ok.free _ h2) hb rfl hn (dbg_ok (by rw [h3]; decide)).1
    · cases h
  · cases h
theorem b1_ok (ok : XOk X T k) {x : Str} {b : Blt} (h : b1 x = some b) : ∃ id : String, x = Str.ofString id ∧ bootBuiltins x = some (.builtin id) ∧ x ≠ "__name__" ∧ CallR X (.builtin id) (rB X.K b) := by
  unfold b1 at h
  split at h
  · rename_i e; cases h; cases beq_str e; exact ⟨"len", rfl, by decide +kernel, by decide +kernel, b_len⟩
  · split at h
    · rename_i e; cases h; cases beq_str e; exact ⟨"abs", rfl, by decide +kernel, by decide +kernel, b_abs⟩
    · split at h
      · rename_i e; cases h; cases beq_str e; exact ⟨"any", rfl, by decide +kernel, by decide +kernel, b_any ok.calm⟩
      · split at h
        · rename_i e; cases h; cases beq_str e; exact ⟨"all", rfl, by decide +kernel, by decide +kernel, b_all ok.calm⟩
        · split at h
          · rename_i e; cases h; cases beq_str e; exact ⟨"max", rfl, by decide +kernel, by decide +kernel, b_max1 ok.calm⟩
          · split at h
            · rename_i e; cases h; cases beq_str e; exact ⟨"min", rfl, by decide +kernel, by decide +kernel, b_min1 ok.calm⟩
            · split at h
              · rename_i e; cases h; cases beq_str e; exact ⟨"sum", rfl, by decide +kernel, by decide +kernel, b_sum1 ok.calm⟩
              · cases h
theorem b1t_ok (ok : XOk X T k) {x : Str} {b : Blt} (h : b1t x = some b) : ∃ id : String, x = Str.ofString id ∧ bootBuiltins x = some (.type id) ∧ x ≠ "__name__" ∧ CallR X (.type id) (rB X.K b) := by
  unfold b1t at h
  split at h
  · rename_i e; cases h; cases beq_str e; exact ⟨"int", rfl, by decide +kernel, by decide +kernel, b_int⟩
  · split at h
    · rename_i e; cases h; cases beq_str e; exact ⟨"tuple", rfl, by decide +kernel, by decide +kernel, b_tup⟩
    · split at h
      · rename_i e; cases h; cases beq_str e; exact ⟨"str", rfl, by decide +kernel, by decide +kernel, b_str ok.grd (Room.units80 ok.room)⟩
      · cases h
theorem b2_ok (ok : XOk X T k) {x : Str} {b : Blt} (h : b2 x = some b) : ∃ id : String, x = Str.ofString id ∧ bootBuiltins x = some (.builtin id) ∧ x ≠ "__name__" ∧ CallR X (.builtin id) (rB X.K b) := by
  unfold b2 at h
  split at h
  · rename_i e; cases h; cases beq_str e; exact ⟨"min", rfl, by decide +kernel, by decide +kernel, b_min ok.calm⟩
  · split at h
    · rename_i e; cases h; cases beq_str e; exact ⟨"max", rfl, by decide +kernel, by decide +kernel, b_max ok.calm⟩
    · cases h
theorem listOf_ok {a : Expr} {ia : Ex} {x : Str} {p : Pos} (hx : x = "list") (hg : Gl X x) (hm : X.mg x = none) (ha : PE X a (tE X.K (CP T k) ia)) (hn : nstar a = true) : PE X (.Call (.Name x p) [a] [] pos) (tF X.K (CP T k) (.listOf ia)) := by
  subst hx
  refine (pe_callTy call_list_of hg hm (by decide +kernel) (pa_cons ha pa_nil (star_cons hn)) (by decide +kernel) (by decide +kernel) (star_cons hn) rfl).weak fun σ H Q ⟨L, m, r, st, ds, st', he, hs, h, q⟩ => ?_
  simp only [evF, Option.bind_eq_some_iff, Option.map_eq_some_iff, Prod.exists] at h
  obtain ⟨w, s1, h1, ds', h2, h3⟩ := h
  cases h3
  refine ⟨L, m, r, st, w, _, he, hs, h1, fun v H1 L1 m1 e1 k1 r1 => ?_⟩
  obtain ⟨p0, ys, rfl, hq, hz, rv⟩ := seqOf_ok r1 k1 h2
  exact ⟨p0, ys, rfl, hq, fun l hl => q l H1 L1 m1 ys e1 k1 hl hz rv⟩
theorem blt_ok (ok : XOk X T k) (a : At X S) (hf : ∀ e ie, f e = some ie → Good X (CP T k) e ie) {x : Str} {p : Pos} {args : List Expr} {ie : Ex} (hl : S.sc.names.lookup x = some .globalImplicit) (hfr : x ∈ T.free) (hd : ¬ dbg x = true)
    (h : bltE f T S x args = some ie) : PE X (.Call (.Name x p) args [] pos) (tE X.K (CP T k) ie) := by
  have hg : Gl X x := gl_of a hl
  have hm := ok.free x hfr
  have d1 := (dbg_ok hd).1
  unfold bltE at h
  split at h
  · rename_i e
    split at h
    · rename_i hn
      simp only [Option.bind_eq_some_iff] at h
      obtain ⟨ia, h1, h2⟩ := h
      have pe := (hf e ia h1).1
      split at h2
      · rename_i hx
        cases h2
        exact s_fr (listOf_ok (beq_str hx) hg hm pe hn)
      · split at h2
        · rename_i b hb
          cases h2
          obtain ⟨id, hx, q1, q2, q3⟩ := b1_ok ok hb
          exact s_blt (pe_callB q3 hg hm q1 (s_cons pe s_nil (star_cons hn)) q2 d1 (star_cons hn) rfl) fun _ _ _ z => z
        · obtain ⟨b, hb, rfl⟩ := Option.map_eq_some_iff.mp h2
          obtain ⟨id, hx, q1, q2, q3⟩ := b1t_ok ok hb
          exact s_blt (pe_callTy q3 hg hm q1 (s_cons pe s_nil (star_cons hn)) q2 d1 (star_cons hn) rfl) fun _ _ _ z => z
    · cases h
  · rename_i e e2
    split at h
    · rename_i hn
      rw [Bool.and_eq_true] at hn
      simp only [Option.bind_eq_some_iff] at h
      obtain ⟨ia, h1, h2⟩ := h
      have pe := (hf e ia h1).1
      split at h2
      · rename_i hx
        cases beq_str hx
        split at h2
        · simp only [Option.bind_eq_some_iff] at h2
          obtain ⟨U, h3, U', h4, h5⟩ := h2
          cases h5
          obtain ⟨t1, t2, t3⟩ := ty_ok ok a h3
          obtain ⟨t1', t2', t3'⟩ := ty_ok ok a h4
          exact s_isi2 t1 t1' hg hm pe t2 t2' (star_cons hn.1) (star_cons t3) (star_cons t3')
        · simp only [Option.bind_eq_some_iff] at h2
          obtain ⟨U, h3, h5⟩ := h2
          cases h5
          obtain ⟨t1, t2, t3⟩ := ty_ok ok a h3
          exact s_isi1 t1 hg hm pe t2 (star_cons hn.1) (star_cons t3)
      · simp only [Option.bind_eq_some_iff, Option.map_eq_some_iff] at h2
        obtain ⟨ib, h3, o, h4, h5⟩ := h2
        cases h5
        obtain ⟨id, hx, q1, q2, q3⟩ := b2_ok ok h4
        have p2 := (hf e2 ib h3).1
        exact s_blt (pe_callB q3 hg hm q1 (s_cons pe (s_cons p2 s_nil (star_cons hn.2)) (star_cons hn.1)) q2 d1 (star_cons hn.1) (by rw [star_cons hn.2]; rfl)) fun _ _ _ z => z
    · cases h
  · cases h
theorem mt_ok (hf : ∀ e ie, f e = some ie → Good X (CP T k) e ie) {o : Expr} {m : Str} {apos : Pos} {args : List Expr} {ie : Ex} (h : mtE f o m args (apos.endLine == pos.line) = some ie) : PE X (.Call (.Attribute o m apos) args [] pos) (tE X.K (CP T k) ie) := by
  unfold mtE at h
  split at h
  · rename_i x p e
    split at h
    · rename_i hn
      rw [Bool.and_eq_true] at hn
      simp only [Option.bind_eq_some_iff] at h
      obtain ⟨io, h1, ia, h2, h3⟩ := h
      have po := (hf _ io h1).1
      have pe := (hf _ ia h2).1
      have few : ((backTo pos (starEach [e] X.env)).all (fun x => !x.1) && (backToKw pos (keywordEach [] X.env)).all (fun x => x.1.isSome) && decide ([e].length + ([] : List Keyword).length + (if ([] : List Keyword).isEmpty then 0 else 1) < 30)) = true := by
        rw [star_cons hn.2]; rfl
      split at h3
      · rename_i hx
        cases h3
        cases beq_str hx
        exact s_mt (pe_bm PySem.F.plainAttrs_list PySem.F.slot_list_append PySem.F.type_list_append m_app po (s_cons pe s_nil (star_cons hn.2)) rfl few hn.1 (star_cons hn.2) rfl) fun _ _ _ z => z
      · split at h3
        · rename_i hx
          cases h3
          cases beq_str hx
          exact s_mt (pe_bm PySem.F.plainAttrs_list PySem.F.slot_list_extend PySem.F.type_list_extend m_ext po (s_cons pe s_nil (star_cons hn.2)) rfl few hn.1 (star_cons hn.2) rfl) fun _ _ _ z => z
        · cases h3
    · cases h
  · rename_i x p
    split at h
    · rename_i hn
      simp only [Option.bind_eq_some_iff] at h
      obtain ⟨io, h1, h3⟩ := h
      have po := (hf _ io h1).1
      split at h3
      · rename_i hx
        cases h3
        cases beq_str hx
        exact s_mt0 (pe_bm0 PySem.F.plainAttrs_list PySem.F.slot_list_pop PySem.F.type_list_pop m_pop po rfl hn) fun _ _ _ z => z
      · cases h3
    · cases h
  · rename_i x p e e2
    split at h
    · rename_i hn
      simp only [Bool.and_eq_true] at hn
      simp only [Option.bind_eq_some_iff] at h
      obtain ⟨io, h1, ia, h2, ib, h4, h3⟩ := h
      have po := (hf _ io h1).1
      have pe := (hf _ ia h2).1
      have pe2 := (hf _ ib h4).1
      have few : ((backTo pos (starEach [e, e2] X.env)).all (fun x => !x.1) && (backToKw pos (keywordEach [] X.env)).all (fun x => x.1.isSome) && decide ([e, e2].length + ([] : List Keyword).length + (if ([] : List Keyword).isEmpty then 0 else 1) < 30)) = true := by
        rw [star_cons hn.1.2, star_cons hn.2]; rfl
      split at h3
      · rename_i hx
        cases h3
        cases beq_str hx
        exact s_mt (pe_bm PySem.F.plainAttrs_list PySem.F.slot_list_insert PySem.F.type_list_insert m_ins po (s_cons pe (s_cons pe2 s_nil (star_cons hn.2)) (star_cons hn.1.2)) rfl few hn.1.1 (star_cons hn.1.2) (by rw [star_cons hn.2]; rfl)) fun _ _ _ z => z
      · cases h3
    · cases h
  · cases h
theorem glob_ok (ok : XOk X T k) (a : At X S) {x : Str} (h : glob T S x = true) : Gl X x ∧ X.mg x = none := by
  unfold glob at h
  simp only [Bool.and_eq_true, decide_eq_true_eq] at h
  exact ⟨gl_of a h.1.1, ok.free x h.1.2⟩
theorem it_ok (ok : XOk X T k) (a : At X S) (hf : ∀ e ie, f e = some ie → Good X (CP T k) e ie) {tg it : Expr} {i : Itx} (h : itE f T S (isTup tg) it = some i) : PI X tg it (tI X.K (CP T k) i) := by
  have seq : ∀ {it : Expr}, (f it).map Itx.seq = some i → PI X tg it (tI X.K (CP T k) i) := fun {it} h => by
    obtain ⟨ia, h1, rfl⟩ := Option.map_eq_some_iff.mp h
    exact i_seq (hf it ia h1).1
  have one : ∀ {e : Expr}, nstar e = true → starEach [e] X.env = [(false, eval e X.env)] := fun h => star_cons h
  unfold itE at h
  split at h
  · rename_i x p args pos
    split at h
    · rename_i e
      split at h
      · rename_i hc
        simp only [Bool.and_eq_true] at hc
        cases beq_str hc.1.1
        obtain ⟨g, m⟩ := glob_ok ok a hc.1.2
        obtain ⟨ia, h1, rfl⟩ := Option.map_eq_some_iff.mp h
        exact i_rng1 g m (hf e ia h1).1 (one hc.2)
      · split at h
        · rename_i hc
          simp only [Bool.and_eq_true] at hc
          cases beq_str hc.1.1.1
          obtain ⟨g, m⟩ := glob_ok ok a hc.1.1.2
          obtain ⟨ia, h1, rfl⟩ := Option.map_eq_some_iff.mp h
          have ht := hc.2
          cases tg <;> first | (simp [isTup] at ht; done) | skip
          exact i_enum g m (hf e ia h1).1 (one hc.1.2)
        · exact seq h
    · rename_i e e2
      split at h
      · rename_i hc
        simp only [Bool.and_eq_true] at hc
        cases beq_str hc.1.1.1
        obtain ⟨g, m⟩ := glob_ok ok a hc.1.1.2
        simp only [Option.bind_eq_some_iff, Option.map_eq_some_iff] at h
        obtain ⟨ia, h1, ib, h2, h3⟩ := h
        cases h3
        exact i_rng2 g m (hf e ia h1).1 (hf e2 ib h2).1 (by rw [star_cons hc.1.2, star_cons hc.2]; rfl) (one hc.2)
      · split at h
        · rename_i hc
          simp only [Bool.and_eq_true] at hc
          cases beq_str hc.1.1.1.1
          obtain ⟨g, m⟩ := glob_ok ok a hc.1.1.1.2
          have ht := hc.2
          cases tg <;> first | (simp [isTup] at ht; done) | skip
          split at h
          · split at h
            · rename_i hr
              simp only [Bool.and_eq_true] at hr
              cases beq_str hr.1.1
              obtain ⟨g2, m2⟩ := glob_ok ok a hr.1.2
              simp only [Option.bind_eq_some_iff, Option.map_eq_some_iff] at h
              obtain ⟨ia, h1, ib, h2, h3⟩ := h
              cases h3
              exact i_zipR g m g2 m2 (hf e ia h1).1 (hf _ ib h2).1 (star_cons hc.1.1.2) (star_cons hr.2)
            · simp only [Option.bind_eq_some_iff, Option.map_eq_some_iff] at h
              obtain ⟨ia, h1, ib, h2, h3⟩ := h
              cases h3
              exact i_zip g m (hf e ia h1).1 (hf _ ib h2).1 (star_cons hc.1.1.2) (star_cons hc.1.2)
          · simp only [Option.bind_eq_some_iff, Option.map_eq_some_iff] at h
            obtain ⟨ia, h1, ib, h2, h3⟩ := h
            cases h3
            exact i_zip g m (hf e ia h1).1 (hf _ ib h2).1 (star_cons hc.1.1.2) (star_cons hc.1.2)
        · exact seq h
    · exact seq h
  · split at h
    · exact seq h
    · cases h
theorem store_of (a : At X S) {x : Str} (h : okStore S x = true) : Loc X.env.scope x ∧ (X.fn x = true ∨ X.env.scope.names.lookup x = some .local) := by
  unfold okStore at h
  simp only [Bool.or_eq_true, Bool.and_eq_true, decide_eq_true_eq] at h
  rw [a.sc, a.fn]
  rcases h with h | ⟨h1, h2⟩
  · exact ⟨.inl h, .inr h⟩
  · exact ⟨.inr h1, .inl h2⟩
theorem tgs_none {env : Env} : ∀ {n : Nat} {ts : List Expr} {its : Tgs}, tgsE S n ts = some its → (assignEach ts env).length = lenT its ∧ (assignEach ts env).findIdx? (·.1) = none
  | _, [], its, h => by
    cases its with
    | nil => exact ⟨rfl, rfl⟩
    | cons _ _ => rename_i n _ _; cases n <;> simp [tgsE] at h
  | 0, _ :: _, _, h => by simp [tgsE] at h
  | n + 1, t :: ts, its, h => by
    simp only [tgsE] at h
    split at h
    · rename_i hn
      simp only [Option.bind_eq_some_iff] at h
      obtain ⟨it, h1, its', h2, h3⟩ := h
      cases h3
      obtain ⟨q1, q2⟩ := tgs_none (env := env) h2
      rw [asg_cons hn]
      refine ⟨by rw [List.length_cons, q1]; rfl, ?_⟩
      rw [List.findIdx?_cons, q2]
      rfl
    · cases h
mutual
theorem tg_ok (ok : XOk X T k) (a : At X S) : ∀ {n : Nat} {t : Expr} {it : Tg}, tgE S n t = some it → PG X t (tG X.K it)
  | 0, t, it, h => by cases t <;> simp [tgE] at h
  | n + 1, t, it, h => by
    cases t with
    | Name x p =>
      simp only [tgE] at h
      split at h
      · rename_i hs
        obtain ⟨i, h1, rfl⟩ := Option.map_eq_some_iff.mp h
        obtain ⟨q1, q2⟩ := store_of a hs
        exact g_name ok.nd (by rw [a.N]; exact ixs_ok h1) q1 q2
      · cases h
    | Tuple ts j p =>
      simp only [tgE] at h
      obtain ⟨its, h1, rfl⟩ := Option.map_eq_some_iff.mp h
      obtain ⟨q1, q2⟩ := tgs_none (env := X.env) h1
      exact g_tup ok.calm (tgs_ok ok a h1) q1 q2
    | _ => simp [tgE] at h
theorem tgs_ok (ok : XOk X T k) (a : At X S) : ∀ {n : Nat} {ts : List Expr} {its : Tgs}, tgsE S n ts = some its → PGs X ts (tGs X.K its)
  | n, [], its, h => by
    cases its with
    | nil => exact g_nil
    | cons _ _ => cases n <;> simp [tgsE] at h
  | 0, _ :: _, _, h => by simp [tgsE] at h
  | n + 1, t :: ts, its, h => by
    simp only [tgsE] at h
    split at h
    · rename_i hn
      simp only [Option.bind_eq_some_iff] at h
      obtain ⟨it, h1, its', h2, h3⟩ := h
      cases h3
      exact g_cons (tg_ok ok a h1) (tgs_ok ok a h2) (by rw [asg_cons hn]; rfl)
    · cases h
end
end
theorem nosl_ok {e : Expr} (h : plainB e = true) : NoSl e := by
  intro o i
  cases e <;> first | rfl | (simp [plainB] at h; done)
theorem dicE_ok {X : Cx} {T : Tab} {k : Nat} {S : SC} {C : CallF} (ok : XOk X T k) (a : At X S) {d i : Expr} {ii : Ex} {kvs : List (Str × PyData)} {pos : Pos} (h : dicE T S d = some kvs) (hi : PE X i (tE X.K C ii)) (hs : NoSl i) : PE X (.Subscript d i pos) (tE X.K C (.dlk kvs ii)) := by
  unfold dicE at h
  split at h
  · obtain ⟨ps, h1, h2⟩ := Option.bind_eq_some_iff.mp h
    split at h2
    · rename_i hc
      cases h2
      exact s_dlkD (by have := Room.units80 ok.room; omega) h1 hc.1 hc.2.1 hc.2.2 hi hs
    · cases h2
  · split at h
    · rename_i hc
      exact s_dlkC (gl_of a hc.1) (ok.dic _ _ h) hi hs (dbg_ok (by rw [hc.2]; exact Bool.false_ne_true)).1
    · cases h
  · cases h
/-- what is asked of the step's own calls: in every context -/
def Rec (T : Tab) (k : Nat) (rec : SC → Expr → Option Ex) : Prop := ∀ (X : Cx) (S : SC) (e : Expr) (ie : Ex), XOk X T k → At X S → rec S e = some ie → Good X (CP T k) e ie
section
variable {X : Cx} {T : Tab} {k : Nat} {S : SC} {rec : SC → Expr → Option Ex} {pos : Pos}
/-- the parts of a comprehension -/
theorem lc_parts (hr : Rec T k rec) (ok : XOk X T k) (a : At X S) {elt : Expr} {gens : List Comprehension} {scope : Scope} {g : Fx} (h : lcE T rec S elt gens scope = some g) :
    ∃ tg iter ifs ie t it cond, gens = [⟨tg, iter, ifs, 0⟩] ∧ g = .lc ie t it cond ((ownOf S scope).map Prod.snd) ∧ PI X tg iter (tI X.K (CP T k) it) ∧ BlkOk X.N X.env.scope scope (ownOf S scope) ∧
    (∀ (s : Shared) (H : Hp) (D : Addr) (cl : List (Str × Addr)) (fp : List Addr), PG (X.blk s H scope (compEnvC scope cl D X.env) fp) tg (tG X.K t)) ∧
    (∀ (s : Shared) (H : Hp) (D : Addr) (cl : List (Str × Addr)) (fp : List Addr), PTs (X.blk s H scope (compEnvC scope cl D X.env) fp) ifs (tC1 X.K (CP T k) cond)) ∧
    (∀ (s : Shared) (H : Hp) (D : Addr) (cl : List (Str × Addr)) (fp : List Addr), PE (X.blk s H scope (compEnvC scope cl D X.env) fp) elt (tE X.K (CP T k) ie)) ∧
    (∀ x, foldedSetIterable iter X.env x = pure x) ∧ tgIn t ((ownOf S scope).map Prod.snd) = true := by
  unfold lcE at h
  split at h
  · rename_i tg iter ifs
    simp only [Option.bind_eq_some_iff] at h
    obtain ⟨t, h1, it, h2, cond, h3, ie, h4, h5⟩ := h
    split at h5
    · rename_i hc
      simp only [Bool.and_eq_true] at hc
      cases h5
      refine ⟨tg, iter, ifs, ie, t, it, cond, rfl, rfl, it_ok ok a (fun e ie => hr X S e ie ok a) h2, ?_, ?_, ?_, ?_, nset_ok hc.2 _, hc.1.2⟩
      · rw [a.N, a.sc]; exact blkOk_by hc.1.1
      · exact fun s H D cl fp => tg_ok (ok.blk s H scope _ fp) (a.blk s H scope D cl fp) h1
      · intro s H D cl fp
        split at h3
        · cases h3; exact c_nil
        · split at h3
          · rename_i ht
            obtain ⟨ic, q1, rfl⟩ := Option.map_eq_some_iff.mp h3
            exact c_one ((hr _ _ _ _ (ok.blk s H scope _ fp) (a.blk s H scope D cl fp) q1).2 ht)
          · cases h3
        · cases h3
      · exact fun s H D cl fp => (hr _ _ _ _ (ok.blk s H scope _ fp) (a.blk s H scope D cl fp) h4).1
    · cases h5
  · cases h
theorem stepE_ok (hr : Rec T k rec) : Rec T k (stepE T rec) := by
  intro X S e ie ok a h
  have hf : ∀ e ie, rec S e = some ie → Good X (CP T k) e ie := fun e ie => hr X S e ie ok a
  cases e with
  | Name x p => exact name_ok ok a h
  | Constant c j p =>
    obtain ⟨d, h1, rfl⟩ := Option.map_eq_some_iff.mp h
    exact cst_ok h1
  | BinOp b op c p =>
    simp only [stepE, Option.bind_eq_some_iff] at h
    obtain ⟨o, h0, ia, h1, ib, h2, h3⟩ := h
    cases h3
    have q := s_bin (pos := p) (op_binF h0) (hf _ ia h1).1 (hf _ ib h2).1
    exact ⟨q, fun _ => t_val q (by intro _; rfl)⟩
  | UnaryOp op b p =>
    cases op with
    | USub =>
      obtain ⟨ia, h1, rfl⟩ := Option.map_eq_some_iff.mp h
      have q := s_neg (pos := p) (hf _ ia h1).1
      exact ⟨q, fun _ => t_val q (by intro _; rfl)⟩
    | Not =>
      simp only [stepE] at h
      split at h
      · rename_i ht
        obtain ⟨ia, h1, rfl⟩ := Option.map_eq_some_iff.mp h
        exact ⟨s_not (hf _ ia h1).1, fun _ => t_not ((hf _ ia h1).2 ht)⟩
      · cases h
    | _ => cases h
  | IfExp c b d p =>
    simp only [stepE] at h
    split at h
    · rename_i ht
      simp only [Option.bind_eq_some_iff] at h
      obtain ⟨ic, h0, ia, h1, ib, h2, h3⟩ := h
      cases h3
      exact ⟨s_ife ((hf _ ic h0).2 ht) (hf _ ia h1).1 (hf _ ib h2).1, fun z => by cases z⟩
    · cases h
  | BoolOp op vs p =>
    simp only [stepE] at h
    split at h
    · simp only [Option.bind_eq_some_iff, Option.map_eq_some_iff] at h
      obtain ⟨ia, h1, ib, h2, h3⟩ := h
      cases h3
      exact ⟨s_orV (hf _ ia h1).1 (pe_one (hf _ ib h2).1), fun z => by cases z⟩
    · obtain ⟨q1, q2⟩ := bool_ok (pos := p) hf h; exact ⟨q1, fun _ => q2.pt⟩
  | Compare b ops cs p => exact cmp_ok ok hf h
  | Tuple es j p =>
    simp only [stepE, Option.bind_eq_some_iff] at h
    obtain ⟨ies, h1, h2⟩ := h
    split at h2
    · cases h2
      have q := s_tup (pos := p) (x1 := j) (args_ok hf h1) (by assumption)
      exact ⟨q, fun _ => t_val q (by intro _; rfl)⟩
    · cases h2
  | List es p =>
    simp only [stepE, Option.bind_eq_some_iff] at h
    obtain ⟨ies, h1, h2⟩ := h
    split at h2
    · cases h2
      have q := s_fr (f_disp (pos := p) (args_ok hf h1) (by assumption))
      exact ⟨q, fun _ => t_val q (by intro _; rfl)⟩
    · cases h2
  | ListComp elt gens scope p =>
    obtain ⟨g, h1, rfl⟩ := Option.map_eq_some_iff.mp h
    obtain ⟨tg, iter, ifs, ie, t, it, cond, rfl, rfl, q1, q2, q3, q4, q5, q6, q7⟩ := lc_parts hr ok a h1
    have q := s_fr (f_lc (pos := p) ok.calm ok.nd q1 q2 q3 q4 q5 q6 q7)
    exact ⟨q, fun _ => t_val q (by intro _; rfl)⟩
  | Subscript b i p =>
    simp only [stepE] at h
    split at h
    · simp only [Option.bind_eq_some_iff] at h
      obtain ⟨ia, h1, pl, h2, ph, h3, h4⟩ := h
      cases h4
      exact ⟨s_slc (hf _ ia h1).1 (part_okE hf h2) (part_okE hf h3), fun _ => t_val (s_slc (hf _ ia h1).1 (part_okE hf h2) (part_okE hf h3)) (by intro _; rfl)⟩
    · obtain ⟨ia, h1, rfl⟩ := Option.map_eq_some_iff.mp h
      exact ⟨s_rev (hf _ ia h1).1, fun _ => t_val (s_rev (hf _ ia h1).1) (by intro _; rfl)⟩
    · simp only [Option.bind_eq_some_iff, Option.map_eq_some_iff] at h
      obtain ⟨ia, h1, is, h2, rfl⟩ := h
      exact ⟨s_step (hf _ ia h1).1 (hf _ is h2).1, fun _ => t_val (s_step (hf _ ia h1).1 (hf _ is h2).1) (by intro _; rfl)⟩
    · split at h
      · rename_i hp
        split at h
        · rename_i kvs hk
          obtain ⟨ii, h2, rfl⟩ := Option.map_eq_some_iff.mp h
          have q := dicE_ok (pos := p) ok a hk (hf _ ii h2).1 (nosl_ok hp)
          exact ⟨q, fun _ => t_val q (by intro _; rfl)⟩
        · simp only [Option.bind_eq_some_iff] at h
          obtain ⟨ia, h1, ii, h2, h3⟩ := h
          cases h3
          have q := s_idx (pos := p) (by have := Room.units80 ok.room; omega) (hf _ ia h1).1 (hf _ ii h2).1 (plain_ok hp)
          exact ⟨q, fun _ => t_val q (by intro _; rfl)⟩
      · cases h
  | Call g args kws p =>
    refine call_val ?_
    simp only [stepE, callE] at h
    split at h
    · rename_i x px
      split at h
      · cases h
      · rename_i hd
        split at h
        · rename_i hl
          split at h
          · rename_i j hj
            simp only [Option.bind_eq_some_iff] at h
            obtain ⟨ies, h1, h2⟩ := h
            split at h2
            · rename_i hnp
              cases h2
              obtain ⟨d, hd1, hd2⟩ := Option.map_eq_some_iff.mp hnp
              obtain ⟨f, fd, ps, q1, q2, q3, q4, q5⟩ := ok.fns x j d (ixs_ok hj) hd1
              have hlen : lenE ies = ps.length := by rw [q4, hd2]
              have hdb := (dbg_ok hd).1
              cases args with
              | nil =>
                cases h1
                refine s_call0 q5 ok.grd ok.room (gl_of a hl) q1 q2 q3 ?_ hdb
                cases ps with
                | nil => rfl
                | cons _ _ => simp [lenE] at hlen
              | cons e es =>
                have hst := args_star (env := X.env) (pos := p) h1
                have hn : nstar e = true := by
                  unfold argsE at h1
                  split at h1
                  · assumption
                  · cases h1
                have ht : (backTo p (starEach es X.env)).any (·.1) = false := by
                  rw [star_cons hn] at hst
                  unfold backTo at *
                  rw [List.map_cons, List.any_cons] at hst
                  exact hst
                exact s_call q5 ok.grd ok.room (gl_of a hl) q1 q2 q3 hlen (args_ok hf h1) hdb (star_cons hn) ht
            · cases h2
          · split at h
            · split at h
              · rename_i rr hrr
                cases h
                unfold revE at hrr
                split at hrr
                · split at hrr
                  · rename_i hc
                    simp only [Bool.and_eq_true] at hc
                    obtain ⟨ib, h2, rfl⟩ := Option.map_eq_some_iff.mp hrr
                    cases beq_str hc.1
                    cases beq_str hc.2.1
                    obtain ⟨g2, m2⟩ := glob_ok ok a hc.2.2.1
                    exact s_lrev ok.calm (gl_of a hl) (ok.free _ (by assumption)) g2 m2 (hf _ ib h2).1 (star_cons hc.2.2.2)
                  · cases hrr
                · split at hrr
                  · rename_i hc
                    simp only [Bool.and_eq_true] at hc
                    simp only [Option.bind_eq_some_iff, Option.map_eq_some_iff] at hrr
                    obtain ⟨ib, h2, ic, h3, rfl⟩ := hrr
                    cases beq_str hc.1
                    cases beq_str hc.2.1
                    obtain ⟨g2, m2⟩ := glob_ok ok a hc.2.2.1
                    exact s_fr (f_zipL ok.calm (gl_of a hl) (ok.free _ (by assumption)) g2 m2 (s_cons (hf _ ib h2).1 (s_cons (hf _ ic h3).1 s_nil (star_cons hc.2.2.2.2)) (star_cons hc.2.2.2.1)) (star_cons hc.2.2.2.1) (by rw [star_cons hc.2.2.2.2]; rfl))
                  · split at hrr
                    · rename_i hc
                      simp only [Bool.and_eq_true] at hc
                      simp only [Option.bind_eq_some_iff, Option.map_eq_some_iff] at hrr
                      obtain ⟨ib, h2, ic, h3, rfl⟩ := hrr
                      cases beq_str hc.1
                      cases beq_str hc.2.1
                      obtain ⟨g2, m2⟩ := glob_ok ok a hc.2.2.1
                      exact s_tupZ ok.calm (gl_of a hl) (ok.free _ (by assumption)) g2 m2 (s_cons (hf _ ib h2).1 (s_cons (hf _ ic h3).1 s_nil (star_cons hc.2.2.2.2)) (star_cons hc.2.2.2.1)) (star_cons hc.2.2.2.1) (by rw [star_cons hc.2.2.2.2]; rfl)
                    · cases hrr
                · cases hrr
              · exact blt_ok ok a hf hl (by assumption) hd h
            · cases h
        · cases h
    · exact mt_ok hf h
    · unfold maxdE at h
      split at h
      · split at h
        · rename_i hc
          simp only [Bool.and_eq_true] at hc
          simp only [Option.bind_eq_some_iff, Option.map_eq_some_iff] at h
          obtain ⟨ia, h1, id, h2, h3⟩ := h
          cases h3
          cases beq_str hc.1
          cases beq_str hc.2.1
          obtain ⟨g, m⟩ := glob_ok ok a hc.2.2.1
          exact s_maxd ok.calm g m (hf _ ia h1).1 (hf _ id h2).1 (star_cons hc.2.2.2)
        · cases h
      · cases h
    · cases h
  | _ => cases h
theorem cE_ok : ∀ n : Nat, Rec T k (cE T n)
  | 0 => fun _ _ _ _ _ _ h => by cases h
  | n + 1 => stepE_ok (cE_ok n)
end
end Sk

/-! SkB: statements, defs, the whole text -/
namespace Sk
open PySem PySem.Spec PyProof.Rows L2

def ncomp : Expr → Bool
  | .ListComp .. => false
  | .SetComp .. => false
  | .DictComp .. => false
  | _ => true
theorem ncomp_ok {e : Expr} (h : ncomp e = true) (t : Option Expr) (l : Nat) (env : Env) : swapsWith e t l env = pure false := by
  cases e <;> first | rfl | (simp [ncomp] at h; done)
def swB (S : SC) (y : Str) (py pos : Pos) (scope : Scope) : Bool :=
  decide (S.sc.names.lookup y = some .local) && (py.line == pos.line) && !(scope.names.any fun (n, k) => n == y && (k == .local || k == .cell))
theorem swB_ok {S : SC} {env : Env} (hs : env.scope = S.sc) (hk : S.sc.kind = .function) {elt : Expr} {gs : List Comprehension} {scope : Scope} {pos py : Pos} {y : Str} {l : Nat} :
    swapsWith (.ListComp elt gs scope pos) (some (.Name y py)) l env = pure (swB S y py pos scope) := by
  have hb : env.blockKind = .function := by unfold Env.blockKind; rw [hs, hk]; rfl
  have ky : env.kindOf y = S.sc.names.lookup y := by unfold Env.kindOf; rw [hs]
  unfold swapsWith swB
  simp only [hb, ky, Expr.pos]
  congr 1
  simp only [BEq.rfl, Bool.true_and]
  congr 2
  by_cases h : List.lookup y S.sc.names = some NameKind.local
  · rw [h]; rfl
  · rw [decide_eq_false h]
    exact beq_eq_false_iff_ne.mpr h
def swN (S : SC) (ts vs : List Expr) : Option (Option (List Str)) :=
  if (!(ts.length == 2 || ts.length == 3) || vs.length != ts.length) = true then some none
  else if (vs.any fun | .Starred .. => true | _ => false) = true then some none
  else
    let line := (ts.head?.map (·.pos.line)).getD 0
    let names := ts.filterMap fun
      | .Name id pos => if (S.sc.names.lookup id == some .local && pos.line == line) = true then some id else none
      | _ => none
    if (names.length != ts.length || names.eraseDups.length != names.length) = true then some none
    else if (vs.all (foldedForSure 8)) = true then some none
    else if (vs.all (constantsAlone 8)) = true then none
    else some (some names)
theorem swN_ok {S : SC} {env : Env} (hs : env.scope = S.sc) (hk : S.sc.kind = .function) {ts vs : List Expr} {k k2 : Nat} {p p2 : Pos} {r : Option (List Str)} (h : swN S ts vs = some r) :
    swappedStores [.Tuple ts k p] (.Tuple vs k2 p2) env = pure r := by
  have hb : (env.blockKind != .function) = false := by unfold Env.blockKind; rw [hs, hk]; rfl
  have ky : ∀ y, env.kindOf y = S.sc.names.lookup y := fun y => by unfold Env.kindOf; rw [hs]
  unfold swappedStores
  simp only [hb, Bool.or_false, ky]
  unfold swN at h
  split at h
  · rename_i c; cases h; exact if_pos c
  · rename_i c
    refine (if_neg c).trans ?_
    split at h
    · rename_i c2; cases h; exact if_pos c2
    · rename_i c2
      refine (if_neg c2).trans ?_
      simp only at h
      split at h
      · rename_i c3; cases h; exact if_pos c3
      · rename_i c3
        refine (if_neg c3).trans ?_
        split at h
        · rename_i c4; cases h; exact if_pos c4
        · rename_i c4
          refine (if_neg c4).trans ?_
          split at h
          · cases h
          · rename_i c5
            cases h
            exact if_neg c5
/-- names of targets, all of them local, at unlike places -/
def locN (S : SC) (x : Str) : Option Nat := if S.sc.names.lookup x = some .local then ixs S.N x else none
def parE (S : SC) (ts : List Expr) (names : List Str) : Option (List Nat) := match ts, names with
  | [.Name x _, .Name y _], [x', y'] => (locN S x).bind fun i => (locN S y).bind fun j => if x = x' ∧ y = y' ∧ i ≠ j then some [i, j] else none
  | [.Name x _, .Name y _, .Name z _], [x', y', z'] => (locN S x).bind fun i => (locN S y).bind fun j => (locN S z).bind fun l => if x = x' ∧ y = y' ∧ z = z' ∧ i ≠ j ∧ i ≠ l ∧ j ≠ l then some [i, j, l] else none
  | _, _ => none
def ntup : Expr → Bool
  | .Tuple .. => false
  | _ => true
section
variable (T : Tab) (rec : SC → Expr → Option Ex) (S : SC) (mv : List Nat)
def asgE (t e : Expr) (pos : Pos) : Option Sx := match t with
  | .Name x px => if okStore S x then (ixs S.N x).bind fun i => match e with
    | .ListComp elt gens scope lp => if swB S x px lp scope && !decide (S.sc.names.lookup x = some .local) then none else (lcE T rec S elt gens scope).map fun g => if i ∈ mv then .new i g else .asg i (.fr g)
    | .List es _ => (argsE (rec S) es).bind fun ies => if lenE ies ≤ lineN then some (if i ∈ mv then .new i (.disp ies) else .asg i (.fr (.disp ies))) else none
    | .Call (.Name y py) [a] [] cp => if y == ("list" : Str) && glob T S y && nstar a && decide (i ∈ mv) then (rec S a).map fun ia => .new i (.listOf ia) else (rec S (.Call (.Name y py) [a] [] cp)).map (.asg i)
    | .BinOp a .Add b bp => if i ∈ mv then (rec S a).bind fun ia => (rec S b).map fun ib => .new i (.cat ia ib) else (rec S (.BinOp a .Add b bp)).map (.asg i)
    | .Dict [] [] _ => some (.newD i)
    | e => if ncomp e then (rec S e).map (.asg i) else none else none
  | .Tuple ts kt pt => match e with
    | .Tuple vs _ _ => (swN S ts vs).bind fun r => match r with
      | some names => (parE S ts names).bind fun is => (argsE (rec S) vs).bind fun ies => some (.par is ies)
      | none => (rec S e).bind fun ie => (tgsE S 9 ts).bind fun its => some (.asgT its ie)
    | e => if ntup e then (rec S e).bind fun ie => (tgsE S 9 ts).bind fun its => some (.asgT its ie) else none
  | .Subscript a i _ => if plainB i && ncomp e then (rec S e).bind fun ie => (rec S a).bind fun ia => (rec S i).bind fun ii => some (.setI ia ii ie) else none
  | _ => none
def stS (live : Bool) (g : List Stmt → Option Sxs) : Stmt → Option Sx
  | .Assign [t] e pos => asgE T rec S mv t e pos
  | .AugAssign (.Name x _) op e _ => if okStore S x then (ixs S.N x).bind fun i => match op with
    | .Add => (rec S e).map fun ie => .aug i .add ie
    | .Sub => (rec S e).map fun ie => .aug i .sub ie
    | _ => none else none
  | .Expr e _ => if ncomp e then (rec S e).map .expr else none
  | .If c a b _ => if tst c then (rec S c).bind fun ic => (g a).bind fun ia => (g b).bind fun ib => some (.ite ic ia ib) else none
  | .While c b [] _ => if tst c then (rec S c).bind fun ic => (g b).bind fun ib => some (.whl ic ib) else none
  | .For tg it b [] _ => if nset it then (tgE S 9 tg).bind fun t => (itE (rec S) T S (isTup tg) it).bind fun i => (g b).bind fun ib => some (.for1 t i ib) else none
  | .Return (some e) _ => match e with
    | .List es _ => if live then (argsE (rec S) es).bind fun ies => if lenE ies ≤ lineN then some (.retF (.disp ies)) else none else (rec S e).map .ret
    | .Tuple (a :: es) tk tp => match live, rec S a with
      | true, some (.var i) => if nstar a && decide (i ∈ mv) then (argsE (rec S) es).bind fun ies => if lenE ies < lineN then some (.ret (.pk i ies)) else none else (rec S (.Tuple (a :: es) tk tp)).map .ret
      | _, _ => (rec S (.Tuple (a :: es) tk tp)).map .ret
    | e => (rec S e).map .ret
  | .Return none _ => some .retN
  | .Break _ => some .brk
  | .Continue _ => some .ctn
  | .Pass _ => some .pass
  | _ => none
def cSs (f : Stmt → Option Sx) : List Stmt → Option Sxs
  | [] => some .nil
  | s :: ss => (f s).bind fun i => (cSs f ss).bind fun is => some (.cons i is)
def cS (live : Bool) : Nat → Stmt → Option Sx
  | 0, _ => none
  | n + 1, s => stS T rec S mv live (cSs (cS live n)) s
end
section
variable {X : Cx} {T : Tab} {k : Nat} {S : SC} {rec : SC → Expr → Option Ex} {mv : List Nat} {pos : Pos}
theorem locN_ok (a : At X S) {x : Str} {i : Nat} (h : locN S x = some i) : X.N[i]? = some x ∧ X.env.scope.names.lookup x = some .local := by
  unfold locN at h
  split at h
  · rename_i c; exact ⟨by rw [a.N]; exact ixs_ok h, by rw [a.sc]; exact c⟩
  · cases h
theorem sub_asg {o i : Expr} {p : Pos} {env : Env} (h : plainB i = true) (v : Value) : assign (.Subscript o i p) env v = (do let ov ← holding [v] (eval o env); let iv ← holding [v, ov] (eval i env); standAt p; holding [v, ov, iv] (setItem ov iv v); release [v, ov, iv] []) := by
  cases i <;> first | rfl | (simp [plainB] at h; done)
theorem sub_sw {o i e : Expr} {p : Pos} {env : Env} (h : ncomp e = true) : swappedStores [.Subscript o i p] e env = pure none := by
  cases e <;> rfl
theorem asg_ok (hr : Rec T k rec) (ok : XOk X T k) (a : At X S) (hk : S.sc.kind = .function) {t e : Expr} {s : Sx} (h : asgE T rec S mv t e pos = some s) : PS X (.Assign [t] e pos) (tS X.K (CP T k) s) := by
  have hf : ∀ e ie, rec S e = some ie → Good X (CP T k) e ie := fun e ie => hr X S e ie ok a
  unfold asgE at h
  split at h
  · rename_i x px
    split at h
    · rename_i hs
      obtain ⟨q1, q2⟩ := store_of a hs
      obtain ⟨i, h1, h⟩ := Option.bind_eq_some_iff.mp h
      have hN : X.N[i]? = some x := by rw [a.N]; exact ixs_ok h1
      split at h
      · rename_i elt gens scope lp _
        split at h
        · cases h
        · rename_i hc
          obtain ⟨g, h2, h3⟩ := Option.map_eq_some_iff.mp h
          obtain ⟨tg, iter, ifs, ie, tt, it, cond, rfl, rfl, w1, w2, w3, w4, w5, w6, w7⟩ := lc_parts hr ok a h2
          cases hsw : swB S x px lp scope with
          | true =>
            have hl : S.sc.names.lookup x = some .local := by
              rw [hsw] at hc
              simpa using hc
            have hl' : X.env.scope.names.lookup x = some .local := by rw [a.sc]; exact hl
            have sw := swB_ok (env := X.env) a.sc hk (elt := elt) (gs := [⟨tg, iter, ifs, 0⟩]) (scope := scope) (pos := lp) (py := px) (y := x) (l := pos.line)
            rw [hsw] at sw
            have both := x_lc ok.calm ok.nd hN hl' sw w1 w2 w3 w4 w5 w6 w7
            split at h3
            · subst h3; exact both.2
            · subst h3; exact both.1
          | false =>
            have sw := swB_ok (env := X.env) a.sc hk (elt := elt) (gs := [⟨tg, iter, ifs, 0⟩]) (scope := scope) (pos := lp) (py := px) (y := x) (l := pos.line)
            rw [hsw] at sw
            have pe := f_lc (pos := lp) ok.calm ok.nd w1 w2 w3 w4 w5 w6 w7
            split at h3
            · subst h3; exact x_new ok.nd hN q1 q2 pe sw
            · subst h3; exact x_asg ok.nd hN q1 q2 (s_fr pe) sw
      · rename_i es p _
        obtain ⟨ies, h2, h3⟩ := Option.bind_eq_some_iff.mp h
        split at h3
        · rename_i hlen
          cases h3
          have pe := f_disp (pos := p) (args_ok hf h2) hlen
          split
          · exact x_new ok.nd hN q1 q2 pe rfl
          · exact x_asg ok.nd hN q1 q2 (s_fr pe) rfl
        · cases h3
      · rename_i y py a0 cp _
        split at h
        · rename_i hc
          simp only [Bool.and_eq_true, decide_eq_true_eq] at hc
          obtain ⟨ia, h2, rfl⟩ := Option.map_eq_some_iff.mp h
          obtain ⟨g1, g2⟩ := glob_ok ok a hc.1.1.2
          exact x_new ok.nd hN q1 q2 (listOf_ok (beq_str hc.1.1.1) g1 g2 (hf _ ia h2).1 hc.1.2) (ncomp_ok rfl _ _ _)
        · obtain ⟨ie, h2, rfl⟩ := Option.map_eq_some_iff.mp h
          exact x_asg ok.nd hN q1 q2 (hf _ ie h2).1 (ncomp_ok rfl _ _ _)
      · split at h
        · simp only [Option.bind_eq_some_iff, Option.map_eq_some_iff] at h
          obtain ⟨ia, h2, ib, h3, rfl⟩ := h
          exact x_new ok.nd hN q1 q2 (f_cat (hf _ ia h2).1 (hf _ ib h3).1) (ncomp_ok rfl _ _ _)
        · obtain ⟨ie, h2, rfl⟩ := Option.map_eq_some_iff.mp h
          exact x_asg ok.nd hN q1 q2 (hf _ ie h2).1 (ncomp_ok rfl _ _ _)
      · cases h
        exact x_newD ok.nd hN q1 q2 rfl
      · split at h
        · rename_i hn
          obtain ⟨ie, h2, rfl⟩ := Option.map_eq_some_iff.mp h
          exact x_asg ok.nd hN q1 q2 (hf _ ie h2).1 (ncomp_ok hn _ _ _)
        · cases h
    · cases h
  · rename_i ts kt pt
    have tup : ∀ {e : Expr} {ie : Ex} {its : Tgs}, rec S e = some ie → tgsE S 9 ts = some its → swapsWithSole [.Tuple ts kt pt] e pos.line X.env = pure false → swappedStores [.Tuple ts kt pt] e X.env = pure none →
        PS X (.Assign [.Tuple ts kt pt] e pos) (tS X.K (CP T k) (.asgT its ie)) := fun {e ie its} h1 h2 hs hw => by
      obtain ⟨q1, q2⟩ := tgs_none (env := X.env) h2
      exact x_asgT (hf _ ie h1).1 (g_tup ok.calm (tgs_ok ok a h2) q1 q2) hs hw rfl
    split at h
    · rename_i vs kv pv
      obtain ⟨r, h1, h2⟩ := Option.bind_eq_some_iff.mp h
      have sw := swN_ok (env := X.env) a.sc hk (k := kt) (k2 := kv) (p := pt) (p2 := pv) h1
      split at h2
      · rename_i names
        simp only [Option.bind_eq_some_iff] at h2
        obtain ⟨is, h3, ies, h4, h5⟩ := h2
        cases h5
        have pa := args_ok hf h4
        unfold parE at h3
        split at h3
        · rename_i x p1 y p2 x' y'
          simp only [Option.bind_eq_some_iff] at h3
          obtain ⟨i, g1, j, g2, g3⟩ := h3
          split at g3
          · rename_i hc
            obtain ⟨rfl, rfl, hij⟩ := hc
            cases g3
            obtain ⟨n1, l1⟩ := locN_ok a g1
            obtain ⟨n2, l2⟩ := locN_ok a g2
            -- two values
            have hv : ∃ b c, vs = [b, c] := by
              unfold swN at h1
              split at h1
              · cases h1
              · rename_i hc
                simp only [Bool.or_eq_true, not_or] at hc
                have : vs.length = 2 := by have := hc.2; simpa using this
                match vs, this with
                | [b, c], _ => exact ⟨b, c, rfl⟩
            obtain ⟨b, c, rfl⟩ := hv
            exact x_par2 ok.calm ok.nd n1 n2 hij l1 l2 pa sw
          · cases g3
        · rename_i x p1 y p2 z p3 x' y' z'
          simp only [Option.bind_eq_some_iff] at h3
          obtain ⟨i, g1, j, g2, l, g4, g3⟩ := h3
          split at g3
          · rename_i hc
            obtain ⟨rfl, rfl, rfl, hij, hil, hjl⟩ := hc
            cases g3
            obtain ⟨n1, l1⟩ := locN_ok a g1
            obtain ⟨n2, l2⟩ := locN_ok a g2
            obtain ⟨n3, l3⟩ := locN_ok a g4
            have hv : ∃ b c d, vs = [b, c, d] := by
              unfold swN at h1
              split at h1
              · cases h1
              · rename_i hc
                simp only [Bool.or_eq_true, not_or] at hc
                have : vs.length = 3 := by have := hc.2; simpa using this
                match vs, this with
                | [b, c, d], _ => exact ⟨b, c, d, rfl⟩
            obtain ⟨b, c, d, rfl⟩ := hv
            exact x_par3 ok.calm ok.nd n1 n2 n3 hij hil hjl l1 l2 l3 pa sw
          · cases g3
        · cases h3
      · simp only [Option.bind_eq_some_iff] at h2
        obtain ⟨ie, h3, its, h4, h5⟩ := h2
        cases h5
        exact tup h3 h4 rfl sw
    · split at h
      · rename_i hn
        simp only [Option.bind_eq_some_iff] at h
        obtain ⟨ie, h3, its, h4, h5⟩ := h
        cases h5
        refine tup h3 h4 (show swapsWith e (some (.Tuple ts kt pt)) pos.line X.env = pure false by cases e <;> rfl) ?_
        have := hn
        cases e <;> first | rfl | (simp [ntup] at this; done)
      · cases h
  · rename_i b i p
    split at h
    · rename_i hn
      rw [Bool.and_eq_true] at hn
      simp only [Option.bind_eq_some_iff] at h
      obtain ⟨ie, h1, ia, h2, ii, h3, h4⟩ := h
      cases h4
      exact x_setI (by have := Room.units80 ok.room; omega) (hf _ ia h2).1 (hf _ ii h3).1 (hf _ ie h1).1 (ncomp_ok hn.2 (some (.Subscript b i p)) pos.line X.env) (sub_sw hn.2) rfl (sub_asg hn.1)
    · cases h
  · cases h
theorem aug_add : PIp X .Add fun x y H Q => ∃ i j d, x = .int i ∧ y = .int j ∧ bop .add (.int i) (.int j) = some d ∧ ∀ v, (∀ K L, Rep K H L v d) → Q v H := by
  intro pins s σ H x y v u Q I r1 r2 h
  obtain ⟨i, j, d, e1, e2, e3, q⟩ := h
  cases e3
  exact ip_add pins s σ H x y v u Q I r1 r2 ⟨i, j, e1, e2, q _ fun _ _ => .int _⟩
theorem aug_sub : PIp X .Sub fun x y H Q => ∃ i j d, x = .int i ∧ y = .int j ∧ bop .sub (.int i) (.int j) = some d ∧ ∀ v, (∀ K L, Rep K H L v d) → Q v H := by
  intro pins s σ H x y v u Q I r1 r2 h
  obtain ⟨i, j, d, e1, e2, e3, q⟩ := h
  cases e3
  exact ip_sub pins s σ H x y v u Q I r1 r2 ⟨i, j, e1, e2, q _ fun _ _ => .int _⟩
theorem ss_ok {f : Stmt → Option Sx} (hs : ∀ s i, f s = some i → PS X s (tS X.K (CP T k) i)) : ∀ {ss : List Stmt} {is : Sxs}, cSs f ss = some is → PSs X ss (tSs X.K (CP T k) is)
  | [], _, h => by cases h; exact x_nil
  | s :: ss, is, h => by
    unfold cSs at h
    simp only [Option.bind_eq_some_iff] at h
    obtain ⟨i, h1, is', h2, h3⟩ := h
    cases h3
    exact x_cons (hs s i h1) (ss_ok hs h2)
theorem stS_ok (hr : Rec T k rec) (ok : XOk X T k) (a : At X S) (hk : S.sc.kind = .function) {g : List Stmt → Option Sxs} (hg : ∀ ss is, g ss = some is → PSs X ss (tSs X.K (CP T k) is)) {s : Stmt} {i : Sx} {live : Bool} (h : stS T rec S mv live g s = some i) : PS X s (tS X.K (CP T k) i) := by
  have hf : ∀ e ie, rec S e = some ie → Good X (CP T k) e ie := fun e ie => hr X S e ie ok a
  have never : PassesOwn (model X.prog X.w) X.A X.env X.xe := by rw [ok.xe]; exact PassesOwn.never
  unfold stS at h
  split at h
  · exact asg_ok hr ok a hk h
  · split at h
    · rename_i hs
      obtain ⟨q1, q2⟩ := store_of a hs
      obtain ⟨i, h1, h⟩ := Option.bind_eq_some_iff.mp h
      have hN := by have := ixs_ok h1; rw [← a.N] at this; exact this
      split at h
      · obtain ⟨ie, h2, rfl⟩ := Option.map_eq_some_iff.mp h
        exact x_aug ok.nd hN q1 q2 (hf _ ie h2).1 aug_add
      · obtain ⟨ie, h2, rfl⟩ := Option.map_eq_some_iff.mp h
        exact x_aug ok.nd hN q1 q2 (hf _ ie h2).1 aug_sub
      · cases h
    · cases h
  · split at h
    · rename_i hn
      obtain ⟨ie, h2, rfl⟩ := Option.map_eq_some_iff.mp h
      exact x_expr (hf _ ie h2).1 (ncomp_ok hn _ _ _)
    · cases h
  · split at h
    · rename_i ht
      simp only [Option.bind_eq_some_iff] at h
      obtain ⟨ic, h1, ia, h2, ib, h3, h4⟩ := h
      cases h4
      exact x_ite ((hf _ ic h1).2 ht) (hg _ _ h2) (hg _ _ h3)
    · cases h
  · split at h
    · rename_i ht
      simp only [Option.bind_eq_some_iff] at h
      obtain ⟨ic, h1, ib, h3, h4⟩ := h
      cases h4
      exact x_while never ((hf _ ic h1).2 ht) (hg _ _ h3)
    · cases h
  · split at h
    · rename_i hn
      simp only [Option.bind_eq_some_iff] at h
      obtain ⟨t, h1, it, h2, ib, h3, h4⟩ := h
      cases h4
      exact x_for never ok.calm (it_ok ok a hf h2) (tg_ok ok a h1) (hg _ _ h3) (nset_ok hn _)
    · cases h
  · split at h
    · split at h
      · obtain ⟨ies, h2, h3⟩ := Option.bind_eq_some_iff.mp h
        split at h3
        · rename_i hlen
          cases h3
          exact x_retF (f_disp (args_ok hf h2) hlen)
        · cases h3
      · obtain ⟨ie, h2, rfl⟩ := Option.map_eq_some_iff.mp h
        exact x_ret (hf _ ie h2).1
    · split at h
      · rename_i i hv
        split at h
        · rename_i hn
          rw [Bool.and_eq_true] at hn
          obtain ⟨ies, h2, h3⟩ := Option.bind_eq_some_iff.mp h
          split at h3
          · rename_i hl
            cases h3
            exact x_ret (s_pk (hf _ _ hv).1 (args_ok hf h2) hl (star_cons hn.1))
          · cases h3
        · obtain ⟨ie, h2, rfl⟩ := Option.map_eq_some_iff.mp h
          exact x_ret (hf _ ie h2).1
      · obtain ⟨ie, h2, rfl⟩ := Option.map_eq_some_iff.mp h
        exact x_ret (hf _ ie h2).1
    · obtain ⟨ie, h2, rfl⟩ := Option.map_eq_some_iff.mp h
      exact x_ret (hf _ ie h2).1
  · cases h; exact x_retN
  · cases h; exact x_brk
  · cases h; exact x_ctn
  · cases h; exact x_pass
  · cases h
theorem cS_ok (hr : Rec T k rec) (ok : XOk X T k) (a : At X S) (hk : S.sc.kind = .function) {live : Bool} : ∀ (n : Nat) (s : Stmt) (i : Sx), cS T rec S mv live n s = some i → PS X s (tS X.K (CP T k) i)
  | 0, _, _, h => by cases h
  | n + 1, s, i, h => stS_ok hr ok a hk (fun ss is hh => ss_ok (cS_ok hr ok a hk n) hh) h
end

/-! ### the whole text -/
structure Df where
  x : Str
  st : Stmt
  N : List Str
  ps : List Str
  mv : List Nat
  live : Bool
def cD (T : Tab) (d : Df) : Option Fd := (cSs (cS T (cE T 40) ⟨d.N, defScope d.st, fun _ => true⟩ d.mv d.live 40) (defBody d.st)).map fun b => ⟨d.ps.length, d.N.length, b, d.live⟩
/-- what must be looked up of a def: of its scope and its body -/
def okDf (T : Tab) (d : Df) : Prop := FnScope d.N d.ps (defScope d.st)
structure DefAt (K : PySem.W.Frag) (mg : Str → Option Value) (d : Df) (f : Addr) (fd : FuncData) : Prop where
  fn : Fun K d.x d.x d.st f fd
  at' : mg d.x = some (.ref f)
  binds : Binds K fd d.ps []
structure Top (pm : Params) (K : PySem.W.Frag) (mg : Str → Option Value) (T : Tab) (ds : List Df) : Prop where
  len : T.fns = ds.map (·.x)
  code : ∀ (j : Nat) (d : Df) (fd : Fd), ds[j]? = some d → T.P[j]? = some fd → cD T d = some fd
  scope : ∀ d ∈ ds, FnScope d.N d.ps (defScope d.st)
  defs : ∀ d ∈ ds, ∃ f fd, DefAt K mg d f fd
  con : ∀ x d, T.con.lookup x = some d → ∃ u v, mg x = some u ∧ RelV v u ∧ ∀ H L, Rep K H L v d
  free : ∀ x ∈ T.free, mg x = none
  dic : ∀ x kvs, T.dic.lookup x = some kvs → DicAt pm K mg x kvs
theorem prog_ok {P : Program} {w : World} {K : PySem.W.Frag} {mg : Str → Option Value} {base : Heap} {T : Tab} {ds : List Df} (top : Top w.params K mg T ds) :
    ∀ (k j : Nat) (d : Df) (fd : Fd) (f : Addr) (fdata : FuncData), ds[j]? = some d → T.P[j]? = some fd → DefAt K mg d f fdata → FnG P w K mg base k f fdata d.ps (callN T.P k j)
  | 0, j, d, fd, f, fdata, _, _, _ => ⟨fun _ _ _ _ _ _ _ _ _ _ _ _ _ _ _ _ _ _ _ _ _ _ hc _ => by cases hc⟩
  | k + 1, j, d, fd, f, fdata, hd, hp, hat => by
    have hm : d ∈ ds := List.mem_of_getElem? hd
    have S := top.scope d hm
    obtain ⟨b, hb, rfl⟩ := Option.map_eq_some_iff.mp (top.code j d fd hd hp)
    refine fnG_of hat.fn S hp rfl rfl fun cdv A outer s H hr hg => ?_
    have ok : XOk (cxOf CX0 P w K mg base d.N d.x (defScope d.st) f cdv A outer s H E0).nox T k := by
      refine ⟨rfl, hg, hr, S.nd, rfl, top.con, fun x j' d' hx hp' => ?_, top.free, top.dic⟩
      have hl : (ds.map (·.x))[j']? = some x := by rw [← top.len]; exact hx
      rw [List.getElem?_map] at hl
      obtain ⟨dj, hdj, rfl⟩ := Option.map_eq_some_iff.mp hl
      have hmj : dj ∈ ds := List.mem_of_getElem? hdj
      obtain ⟨f', fd', hat'⟩ := top.defs dj hmj
      obtain ⟨b', hb', rfl⟩ := Option.map_eq_some_iff.mp (top.code j' dj d' hdj hp')
      exact ⟨f', fd', dj.ps, hat'.at', hat'.fn.kp, hat'.binds, rfl, prog_ok top k j' dj _ f' fd' hdj hp' hat'⟩
    exact ss_ok (cS_ok (cE_ok 40) ok ⟨rfl, rfl, rfl⟩ S.kind 40) hb
end Sk

/-! SkC: the law's own call -/
namespace Sk
open PySem PySem.Spec PyProof.Rows L2

theorem caller_grd : callerA.guards = some [] := rfl
theorem law_callG {P : Program} {w : World} {K : PySem.W.Frag} {mg mb : Str → Option Value} {k : Nat} {fa a : Addr} {fd : FuncData} {x : Str} {c : List W → Mem → Option (W × Mem)} {s1 : Shared} {vs : List Value} {ns : List Int}
    (KX : K.In s1.heap) (hns : s1.heap.Ns mainGlobals mg) (hb : s1.heap.Ns builtinsNs mb) (hbb : ∀ y : Str, y ≠ "__name__" → mb y = bootBuiltins y) (hlim : s1.heap.NoLimit) (hg : s1.gens = #[])
    (ha : s1.heap.get? a = some { cls := .type "list", data := .seq vs.toArray }) (hi : IntsAre vs ns) (hl : ns.length ≤ sizeLine) (hr : Room k callerA)
    (F : ∀ base : Heap, K.In base → base.Ns mainGlobals mg → FnG P w K mg base k fa fd [x] c)
    (hbind : BindsTo s1 fd ⟨[.ref a], []⟩ [(x, .ref a)]) (hc : ∃ st, c [.scr ns] [] = some (.val (.bool true), st)) :
    codeAny (PySem.model P w) callerA (.call (.ref fa) ⟨[.ref a], []⟩)
      (fun r s' => r = .ok (.ret (.bool true)) ∧ OldK s1.heap s'.heap ∧ s'.os = s1.os ∧ AllBare s'.gens) s1 := by
  obtain ⟨stE, hc⟩ := hc
  have rv := vals_ints hi
  have lenV := hi.length
  have core : ∀ H : Hp, Only H → Fzn K H (fun _ => False) a (ns.map V.int) → HOk P w H s1.heap → (∀ b, H b ≠ none → b = a) → (H a ≠ none → K.lookup a = none) →
      codeAny (PySem.model P w) callerA (.call (.ref fa) ⟨[.ref a], []⟩)
        (fun r s' => r = .ok (.ret (.bool true)) ∧ OldK s1.heap s'.heap ∧ s'.os = s1.os ∧ AllBare s'.gens) s1 := by
    intro H hO hS hok hA hK
    have noA : ∀ {b : Addr} {o : Obj} {es : Array DictEntry} {ep : Nat}, s1.heap.get? b = some o → o.data = .dict es ep → H b = none := by
      intro b o es ep e d
      cases q : H b with
      | none => rfl
      | some u =>
        obtain rfl : b = a := hA b (by rw [q]; simp)
        rw [ha] at e
        cases e
        have d' : Data.seq vs.toArray _ = Data.dict es ep := d
        cases d'
    have nsK : ∀ {b : Addr} {mm : Str → Option Value}, s1.heap.Ns b mm → (hidT s1.heap H).Ns b mm := by
      rintro b mm ⟨o, es, ep, e, d, r⟩
      exact ⟨o, es, ep, hidT_get e (noA e d), d, r⟩
    have hKb : K.In (hidT s1.heap H) := by
      intro b o e
      refine hidT_get (KX b o e) ?_
      cases q : H b with
      | none => rfl
      | some u =>
        obtain rfl : b = a := hA b (by rw [q]; simp)
        rw [hK (by rw [q]; simp)] at e
        cases e
    obtain ⟨mc, hc1, hc2⟩ := hlim
    have hM : Mod K mg (hidT s1.heap H) := ⟨hKb, nsK hns, ⟨mb, nsK hb, hbb⟩, ⟨mc, nsK hc1, hc2⟩⟩
    have none0 : ∀ b ∈ frs ([] : List Env), H b = none := fun b z => absurd z (by simp [frs])
    have e0 : Env0 P w K mg (hidT s1.heap H) callerA [] s1 H := ⟨rfl, hM, fun b o e => of_hidT e, Nat.le_of_eq (hidT_size _ _), trivial, none0, hok, .of_eq hg⟩
    have k0 : StOk K H (fun _ => False) [] [] := ⟨rfl, by simp, fun _ z => z.elim, fun n cc b h _ => by simp at h⟩
    have rs : RepWs K H (fun _ => False) [] [V.ref a] [W.scr ns] := .cons (.scr hS hl) .nil
    refine codeAny_mono ((F _ hKb (nsK hns)).run callerA [] s1 H ⟨[.ref a], []⟩ [.ref a] [.ref a] (fun _ => False) [] [.scr ns] [] (.val (.bool true)) stE (fun v _ => v = .bl true) caller_grd hr e0 hbind (.cons rfl .nil) rfl k0 rs hc ?_) fun r s' h => ?_
    · intro v H' L' m' _ _ rw
      cases rw with | val rw =>
      cases rw
      rfl
    cases r with
    | error e => exact h.elim
    | ok fl =>
      cases fl with
      | next => exact h.elim
      | brk => exact h.elim
      | cont => exact h.elim
      | ret u =>
        obtain ⟨v, H', os, bare, un, hok', r', q⟩ := h
        have q' : v = .bl true := q
        subst q'
        obtain rfl : u = Value.bool true := r'
        refine ⟨rfl, OldK.of_keep ?_, os, bare⟩
        intro b o e
        cases q : H b with
        | none => exact un.keep b o e q (by simp [frs]) (by simp)
        | some u =>
          rcases hO b with z | ⟨ob, xs, z⟩
          · rw [q] at z; cases z
          · obtain ⟨e1, _⟩ := hok b _ z
            obtain ⟨e2, _⟩ := hok' b _ (un.frzs b ob _ z)
            rw [e] at e1
            cases e1
            exact e2
  cases hk : K.lookup a with
  | some o =>
    have e := KX a o hk
    rw [ha] at e
    cases e
    exact core (fun _ => none) (fun _ => .inl rfl) (.inr ⟨_, vs.toArray, _, hk, rfl, rfl, rfl, by rw [List.size_toArray, lenV]; exact hl, by simpa using rv⟩)
      (fun b u z => by have z' : (none : Option HO) = some u := z; cases z') (fun b z => absurd rfl z) fun z => absurd rfl z
  | none =>
    have atA : ∀ b, b = a → (fun b => if b = a then some (HO.frz { cls := .type "list", data := .seq vs.toArray } (.lst (ns.map V.int))) else none : Hp) b = some (.frz { cls := .type "list", data := .seq vs.toArray } (.lst (ns.map V.int))) := fun b h => if_pos h
    refine core (fun b => if b = a then some (.frz { cls := .type "list", data := .seq vs.toArray } (.lst (ns.map V.int))) else none) (fun b => ?_)
      (.inl ⟨{ cls := .type "list", data := .seq vs.toArray }, if_pos rfl, fun z => z⟩) (fun b u z => ?_) (fun b z => ?_) fun _ => hk
    · by_cases hb : b = a
      · exact .inr ⟨_, _, if_pos hb⟩
      · exact .inl (if_neg hb)
    · by_cases hb : b = a
      · have z' := (if_pos hb).symm.trans z
        cases z'
        subst hb
        exact ⟨ha, by rw [List.length_map]; exact hl, vs, _, rv, ha⟩
      · have z' := (if_neg hb).symm.trans z
        cases z'
    · by_cases hb : b = a
      · exact hb
      · exact absurd (if_neg hb) z
/-- the goal that k_head leaves, from what the small language comes to -/
theorem walk_G {l : PySem.W.OpenLaw} {n k : Nat} {q : Program} {loose : List Str} {XP : (Str → Option Value) → Heap → Prop} {YP : World → Heap → Prop} {d : DefRec} {K : Params → PySem.W.Frag} {x : Str} {T : Tab} {ds : List Df} {j : Nat} {dj : Df} {fdj : Fd}
    (hn : l.most = some n) (hn2 : n ≤ sizeLine) (hdf : d.params.defaults = []) (hr : Room k callerA) (hY : ∀ (w : World) (h : Heap), YP w h → (K w.params).In h)
    (hj : ds[j]? = some dj) (hp : T.P[j]? = some fdj) (hx : dj.x = d.name) (hps : dj.ps = [x])
    (F : ∀ (w : World) (mg : Str → Option Value) (h : Heap), (K w.params).In h → h.Ns mainGlobals mg → Top w.params (K w.params) mg T ds)
    (hc : ∀ ns : List Int, ns.length ≤ n → (∀ z ∈ ns, z.natAbs.log2 ≤ 1048576) → ∃ st, callN T.P k j [.scr ns] [] = some (.val (.bool true), st)) :
    PySem.W.WalkO q loose XP YP l.row.toRowW d [] (fun f vs => PySem.call f vs) := by
  refine Att.attach_callB hn hdf fun w s0 s1 mg mb fa o pm cd doc a vs ns G Y ho hd hcd hmg hobj hints hlen hbits hg => ?_
  have KX := hY w _ Y
  have top := F w mg _ KX G.T.g
  obtain ⟨f, fd, hat⟩ := top.defs dj (List.mem_of_getElem? hj)
  have efa : fa = f := by
    have z := hat.at'
    rw [hx, hmg] at z
    cases z
    rfl
  subst efa
  have hb : BindsTo s1 fd ⟨[.ref a], []⟩ [(x, .ref a)] := by
    have := hat.binds s1 [.ref a] KX (by rw [hps]; rfl)
    rw [hps] at this
    exact this
  refine law_callG (c := callN T.P k j) KX G.T.g G.T.b G.T.builtins G.T.nolimit hg hobj hints (Nat.le_trans hlen hn2) hr (fun base h1 h2 => ?_) hb (hc ns hlen fun z hz => ?_)
  rotate_left
  · have q := hbits z hz
    unfold Builtin.Int.intBits at q
    split at q
    · rename_i h0
      rw [show z.natAbs = 0 by simpa using h0]
      decide
    · omega
  have := prog_ok (P := l.prog) (w := w) (base := base) top k j dj fdj fa fd hj hp hat
  rw [hps] at this
  exact this
end Sk
namespace Sk
open PySem PySem.Spec PyProof.Rows L2
/-- each def's compiled form -/
def Codes (T : Tab) : List Df → List Fd → Prop
  | [], _ => True
  | d :: ds, f :: fs => cD T d = some f ∧ Codes T ds fs
  | _ :: _, [] => False
theorem Codes.get {T : Tab} : ∀ {ds : List Df} {fs : List Fd}, Codes T ds fs → ∀ (j : Nat) (d : Df) (fd : Fd), ds[j]? = some d → fs[j]? = some fd → cD T d = some fd
  | [], _, _, j, d, fd, h, _ => by simp at h
  | d :: ds, f :: fs, c, 0, _, _, h, g => by simp at h g; subst h g; exact c.1
  | d :: ds, f :: fs, c, j + 1, _, _, h, g => Codes.get c.2 j _ _ (by simpa using h) (by simpa using g)
  | _ :: _, [], c, _, _, _, _, _ => c.elim
theorem defAt_mk {h : Heap} {K : PySem.W.Frag} {mg : Str → Option Value} (X : K.In h) (G : h.Ns mainGlobals mg) {d : Df} {f : Addr} {oc kV doc pm cdv ct : Value} {od an : Option Addr} {sl : Array (Option Value)}
    (a : PySem.W.nsIn K mainGlobals d.x = some (some (.ref f))) (l : K.lookup f = some ⟨oc, od, .func (PySem.W.fnOf d.x d.x (defArgs d.st) (defBody d.st) (defScope d.st) .none kV doc pm an cdv ct), sl⟩)
    (c : PySem.W.codeIn K cdv d.x = true) (k : PySem.W.keepIn K (.ref f) = true)
    (hb : ∀ (kV doc pm : Value) (an : Option Addr) (cdv ct : Value) (us : List Value), us.length = d.ps.length → bindArgs (PySem.W.fnOf d.x d.x (defArgs d.st) (defBody d.st) (defScope d.st) .none kV doc pm an cdv ct) ⟨us, []⟩ = pure (d.ps.zip us)) :
    ∃ f fd, DefAt K mg d f fd :=
  ⟨f, _, fun_mk l c k, PySem.W.mg_of X G a, (fun_mk l c k).binds hb⟩
/-- constants that the module's top writes -/
def ConAt (K : PySem.W.Frag) (mg : Str → Option Value) (x : Str) (d : PyData) : Prop := ∃ u v, mg x = some u ∧ RelV v u ∧ ∀ H L, Rep K H L v d
theorem con_nil {K : PySem.W.Frag} {mg : Str → Option Value} : ∀ x d, ([] : List (Str × PyData)).lookup x = some d → ∃ u v, mg x = some u ∧ RelV v u ∧ ∀ H L, Rep K H L v d := fun x d h => by cases h
theorem con_cons {K : PySem.W.Frag} {mg : Str → Option Value} {y : Str} {e : PyData} {l : List (Str × PyData)} (h : ConAt K mg y e) (t : ∀ x d, l.lookup x = some d → ∃ u v, mg x = some u ∧ RelV v u ∧ ∀ H L, Rep K H L v d) :
    ∀ x d, ((y, e) :: l).lookup x = some d → ∃ u v, mg x = some u ∧ RelV v u ∧ ∀ H L, Rep K H L v d := by
  intro x d hx
  rw [List.lookup_cons] at hx
  split at hx
  · rename_i hb
    cases hx
    obtain rfl : x = y := LawfulBEq.eq_of_beq hb
    exact h
  · exact t x d hx
theorem con_int {h : Heap} {K : PySem.W.Frag} {mg : Str → Option Value} (X : K.In h) (G : h.Ns mainGlobals mg) {x : Str} {i : Int} {t : Tok} (a : PySem.W.nsIn K mainGlobals x = some (some (.int i t))) : ConAt K mg x (.int i) :=
  ⟨_, .int i, PySem.W.mg_of X G a, ⟨t, rfl⟩, fun _ _ => .int i⟩
theorem con_str {h : Heap} {K : PySem.W.Frag} {mg : Str → Option Value} (X : K.In h) (G : h.Ns mainGlobals mg) {x y : Str} {t : Tok} (a : PySem.W.nsIn K mainGlobals x = some (some (.str y t))) : ConAt K mg x (.str y) :=
  ⟨_, .str y, PySem.W.mg_of X G a, ⟨t, rfl⟩, fun _ _ => .str y⟩
theorem con_ref {h : Heap} {K : PySem.W.Frag} {mg : Str → Option Value} (X : K.In h) (G : h.Ns mainGlobals mg) {x : Str} {g : Addr} {d : PyData} (a : PySem.W.nsIn K mainGlobals x = some (some (.ref g))) (r : ∀ H L, Rep K H L (.ref g) d) : ConAt K mg x d :=
  ⟨_, .ref g, PySem.W.mg_of X G a, rfl, r⟩
theorem rep_tup {K : PySem.W.Frag} {g : Addr} {od : Option Addr} {its : Array Value} {n : Nat} {sl : Array (Option Value)} {xs : List V} {ds : List PyData} (l : K.lookup g = some ⟨.type "tuple", od, .seq its n, sl⟩) (hs : its.size ≤ sizeLine) (hx : xs.length ≤ sizeLine) (hv : Vals xs its.toList) (hr : ∀ H L, RepA K H L xs ds) : ∀ H L, Rep K H L (.ref g) (.tuple ds) :=
  fun H L => .tup (.inr ⟨_, its, n, l, rfl, rfl, hs, hv⟩) hx (hr H L)
/-- dicts of the module's top -/
theorem dic_nil {pm : Params} {K : PySem.W.Frag} {mg : Str → Option Value} : ∀ x kvs, ([] : List (Str × List (Str × PyData))).lookup x = some kvs → DicAt pm K mg x kvs := fun x d h => by cases h
theorem dic_cons {pm : Params} {K : PySem.W.Frag} {mg : Str → Option Value} {y : Str} {e : List (Str × PyData)} {l : List (Str × List (Str × PyData))} (h : DicAt pm K mg y e) (t : ∀ x d, l.lookup x = some d → DicAt pm K mg x d) :
    ∀ x d, ((y, e) :: l).lookup x = some d → DicAt pm K mg x d := by
  intro x d hx
  rw [List.lookup_cons] at hx
  split at hx
  · rename_i hb
    cases hx
    obtain rfl : x = y := LawfulBEq.eq_of_beq hb
    exact h
  · exact t x d hx
theorem dic_ref {pm : Params} {h : Heap} {K : PySem.W.Frag} {mg : Str → Option Value} (X : K.In h) (G : h.Ns mainGlobals mg) {x : Str} {g : Addr} {es : Array DictEntry} {ep : Nat} {kvs : List (Str × PyData)}
    (a : PySem.W.nsIn K mainGlobals x = some (some (.ref g))) (l : K.lookup g = some { cls := .type "dict", data := .dict es ep }) (r : DicEs pm K es.toList kvs) : DicAt pm K mg x kvs :=
  ⟨g, _, es, ep, PySem.W.mg_of X G a, l, ⟨rfl, rfl, rfl⟩, rfl, r⟩
theorem dic_e {pm : Params} {K : PySem.W.Frag} {k : Str} {t : Tok} {v : V} {u : Value} {d : PyData} {es : List DictEntry} {kvs : List (Str × PyData)} (r : RelV v u) (q : ∀ H L, Rep K H L v d) (h : DicEs pm K es kvs) :
    DicEs pm K (⟨PyData.keyHash pm k, .str k t, u⟩ :: es) ((k, d) :: kvs) := ⟨rfl, ⟨t, rfl⟩, ⟨v, r, q⟩, h⟩
end Sk

/-! SkD: the small language, stepped through backwards: what is to hold of the result -/
namespace Sk
open PySem PySem.Spec PyProof.Rows L2

structure wp {α : Type} (x : Option α) (Q : α → Prop) : Prop where of ::
  go : ∃ a, x = some a ∧ Q a
section
variable {α β : Type} {Q : α → Prop} {R : β → Prop}
theorem wp_some {a : α} (h : Q a) : wp (some a) Q := ⟨a, rfl, h⟩
theorem wp_bind {x : Option α} {f : α → Option β} (h : wp x fun a => wp (f a) R) : wp (x.bind f) R := by
  obtain ⟨a, rfl, b, hb, hR⟩ := h
  exact ⟨b, hb, hR⟩
theorem wp_map {x : Option α} {f : α → β} (h : wp x fun a => R (f a)) : wp (x.map f) R := by
  obtain ⟨a, rfl, hR⟩ := h
  exact ⟨f a, rfl, hR⟩
theorem wp_mono {x : Option α} {Q' : α → Prop} (h : wp x Q) (m : ∀ a, Q a → Q' a) : wp x Q' := by
  obtain ⟨a, e, q⟩ := h
  exact ⟨a, e, m a q⟩
end

abbrev WQ := W → Mem → Prop
abbrev WR := Out → Rho → Mem → Prop
section
variable (C : CallF)
structure wE (e : Ex) (r : Rho) (st : Mem) (Q : WQ) : Prop where of ::
  go : wp (ev C e r st) fun p => Q p.1 p.2
structure wEs (es : Exs) (r : Rho) (st : Mem) (Q : List W → Mem → Prop) : Prop where of ::
  go : wp (evs C es r st) fun p => Q p.1 p.2
structure wF (f : Fx) (r : Rho) (st : Mem) (Q : List PyData → Mem → Prop) : Prop where of ::
  go : wp (evF C f r st) fun p => Q p.1 p.2
structure wI (i : Itx) (r : Rho) (st : Mem) (Q : List PyData → List Nat → Mem → Prop) : Prop where of ::
  go : wp (evI C i r st) fun p => Q p.1 p.2.1 p.2.2
structure wS (s : Sx) (r : Rho) (st : Mem) (Q : WR) : Prop where of ::
  go : wp (ex C s r st) fun p => Q p.1 p.2.1 p.2.2
structure wSs (s : Sxs) (r : Rho) (st : Mem) (Q : WR) : Prop where of ::
  go : wp (exs C s r st) fun p => Q p.1 p.2.1 p.2.2
structure wC (f : Nat) (ws : List W) (st : Mem) (Q : WQ) : Prop where of ::
  go : wp (C f ws st) fun p => Q p.1 p.2
end
/-- a value's data -/
structure wL (st : Mem) (w : W) (Q : PyData → Prop) : Prop where of ::
  go : wp (lookD st w) Q
structure wZ (st : Mem) (w : W) (Q : PyData → Mem → Prop) : Prop where of ::
  go : wp (frz st w) fun p => Q p.1 p.2
structure wZs (st : Mem) (ws : List W) (Q : List PyData → Mem → Prop) : Prop where of ::
  go : wp (frzs st ws) fun p => Q p.1 p.2
structure wB (o : BOp) (x y : PyData) (Q : PyData → Prop) : Prop where of ::
  go : wp (bop o x y) Q
structure wP (o : COp) (x y : PyData) (Q : Bool → Prop) : Prop where of ::
  go : wp (cop o x y) Q
structure wIx (x y : PyData) (Q : PyData → Prop) : Prop where of ::
  go : wp (idxD x y) Q
structure wBl (b : Blt) (ds : List PyData) (Q : PyData → Prop) : Prop where of ::
  go : wp (bltD b ds) Q
/-- what is to hold of a truth, by cases -/
def Br (x : W) (t f : Prop) : Prop := match x with
  | .val (.bool b) => (b = true → t) ∧ (b = false → f)
  | _ => False
theorem Br_mk {b : Bool} {t f : Prop} (h : b = true → t) (g : b = false → f) : Br (.val (.bool b)) t f := ⟨h, g⟩
section
variable {C : CallF} {r : Rho} {st : Mem} {Q : WQ} {a b c i : Ex} {es : Exs}
theorem we_var {k : Nat} {w : W} (h : r[k]? = some (some w)) (q : Q w st) : wE C (.var k) r st Q := ⟨(w, st), by simp [ev, h], q⟩
theorem we_con {d : PyData} (q : Q (.val d) st) : wE C (.con d) r st Q := ⟨(.val d, st), by simp only [ev], q⟩
theorem we_bin {o : BOp} (h : wE C a r st fun x s1 => wE C b r s1 fun y s2 => wL s2 x fun dx => wL s2 y fun dy => wB o dx dy fun d => Q (.val d) s2) : wE C (.bin o a b) r st Q := by
  obtain ⟨⟨x, s1⟩, e1, ⟨y, s2⟩, e2, dx, e3, dy, e4, d, e5, q⟩ := h
  exact ⟨(.val d, s2), by simp only [ev, e1, e2, e3, e4, e5, Option.bind_some, Option.map_some], q⟩
theorem we_neg (h : wE C a r st fun x s1 => ∃ j : Int, x = .val (.int j) ∧ Q (.val (.int (-j))) s1) : wE C (.neg a) r st Q := by
  obtain ⟨⟨x, s1⟩, e1, j, e, q⟩ := h
  exact ⟨(.val (.int (-j)), s1), by simp only [ev, e1, show x = .val (.int j) from e, Option.bind_some], q⟩
theorem we_cmp {o : COp} (h : wE C a r st fun x s1 => wE C b r s1 fun y s2 => wL s2 x fun dx => wL s2 y fun dy => wP o dx dy fun d => Q (.val (.bool d)) s2) : wE C (.cmp o a b) r st Q := by
  obtain ⟨⟨x, s1⟩, e1, ⟨y, s2⟩, e2, dx, e3, dy, e4, d, e5, q⟩ := h
  exact ⟨(.val (.bool d), s2), by simp only [ev, e1, e2, e3, e4, e5, Option.bind_some, Option.map_some], q⟩
theorem we_isN (h : wE C a r st fun x s1 => Q (.val (.bool (isNn x))) s1) : wE C (.isN a) r st Q := by
  obtain ⟨⟨x, s1⟩, e1, q⟩ := h
  exact ⟨(.val (.bool (isNn x)), s1), by simp only [ev, e1, Option.map_some], q⟩
theorem we_notN (h : wE C a r st fun x s1 => Q (.val (.bool (!isNn x))) s1) : wE C (.notN a) r st Q := by
  obtain ⟨⟨x, s1⟩, e1, q⟩ := h
  exact ⟨(.val (.bool (!isNn x)), s1), by simp only [ev, e1, Option.map_some], q⟩
theorem we_and (h : wE C a r st fun x s1 => Br x (wE C b r s1 Q) (Q (.val (.bool false)) s1)) : wE C (.and2 a b) r st Q := by
  obtain ⟨⟨x, s1⟩, e1, q⟩ := h
  match x, q with
  | .val (.bool true), q => obtain ⟨p, e2, q2⟩ := q.1 rfl; exact ⟨p, by simp only [ev, e1, Option.bind_some]; exact e2, q2⟩
  | .val (.bool false), q => exact ⟨(.val (.bool false), s1), by simp only [ev, e1, Option.bind_some], q.2 rfl⟩
theorem we_or (h : wE C a r st fun x s1 => Br x (Q (.val (.bool true)) s1) (wE C b r s1 Q)) : wE C (.or2 a b) r st Q := by
  obtain ⟨⟨x, s1⟩, e1, q⟩ := h
  match x, q with
  | .val (.bool false), q => obtain ⟨p, e2, q2⟩ := q.2 rfl; exact ⟨p, by simp only [ev, e1, Option.bind_some]; exact e2, q2⟩
  | .val (.bool true), q => exact ⟨(.val (.bool true), s1), by simp only [ev, e1, Option.bind_some], q.1 rfl⟩
theorem we_orN (h : wE C a r st fun x s1 => x = .val .none ∧ wE C b r s1 Q) : wE C (.orV a b) r st Q := by
  obtain ⟨⟨x, s1⟩, e1, e2, ⟨p, e3, q⟩⟩ := h
  exact ⟨p, by simp only [ev, e1, show x = .val .none from e2, Option.bind_some]; exact e3, q⟩
theorem we_orT (h : wE C a r st fun x s1 => (∃ d ds, x = .val (.tuple (d :: ds))) ∧ Q x s1) : wE C (.orV a b) r st Q := by
  obtain ⟨⟨x, s1⟩, e1, ⟨d, ds, e2⟩, q⟩ := h
  refine ⟨(x, s1), ?_, q⟩
  simp only [ev, e1, show x = .val (.tuple (d :: ds)) from e2, Option.bind_some]
theorem we_isC {b : Bool} (h : wE C a r st fun x s1 => ∃ c, x = .val (.bool c) ∧ Q (.val (.bool (c == b))) s1) : wE C (.isC b a) r st Q := by
  obtain ⟨⟨x, s1⟩, e1, c, ex, q⟩ := h
  obtain rfl : x = .val (.bool c) := ex
  exact ⟨(.val (.bool (c == b)), s1), by simp only [ev, e1, Option.bind_some], q⟩
theorem we_not (h : wE C a r st fun x s1 => ∃ k, x = .val (.bool k) ∧ Q (.val (.bool (!k))) s1) : wE C (.not1 a) r st Q := by
  obtain ⟨⟨x, s1⟩, e1, j, e, q⟩ := h
  exact ⟨(.val (.bool (!j)), s1), by simp only [ev, e1, show x = .val (.bool j) from e, Option.bind_some], q⟩
theorem we_ife (h : wE C c r st fun x s1 => Br x (wE C a r s1 Q) (wE C b r s1 Q)) : wE C (.ife c a b) r st Q := by
  obtain ⟨⟨x, s1⟩, e1, q⟩ := h
  match x, q with
  | .val (.bool true), q => obtain ⟨p, e2, q2⟩ := q.1 rfl; exact ⟨p, by simp only [ev, e1, Option.bind_some]; exact e2, q2⟩
  | .val (.bool false), q => obtain ⟨p, e2, q2⟩ := q.2 rfl; exact ⟨p, by simp only [ev, e1, Option.bind_some]; exact e2, q2⟩
theorem we_tup (h : wEs C es r st fun ws s1 => wZs s1 ws fun ds s2 => Q (.val (.tuple ds)) s2) : wE C (.tup es) r st Q := by
  obtain ⟨⟨ws, s1⟩, e1, ⟨ds, s2⟩, e2, q⟩ := h
  exact ⟨(.val (.tuple ds), s2), by simp only [ev, e1, e2, Option.bind_some], q⟩
theorem we_fr {f : Fx} (h : wF C f r st fun ds s1 => Q (.val (.list ds)) s1) : wE C (.fr f) r st Q := by
  obtain ⟨⟨ds, s1⟩, e1, q⟩ := h
  exact ⟨(.val (.list ds), s1), by simp only [ev, e1, Option.bind_some], q⟩
theorem we_idx (h : wE C a r st fun x s1 => wE C i r s1 fun y s2 => wp (look s2 x) fun dx => wp (look s2 y) fun dy => wIx dx dy fun d => Q (.val d) s2) : wE C (.idx a i) r st Q := by
  obtain ⟨⟨x, s1⟩, e1, ⟨y, s2⟩, e2, dx, e3, dy, e4, d, e5, q⟩ := h
  refine ⟨(.val d, s2), ?_, q⟩
  have ei : idxW s2 x y = some d := by
    cases x with
    | dic n => cases e3
    | _ => simp only [idxW, e3, e4, e5, Option.bind_some]
  simp only [ev, e1, e2, ei, Option.bind_some, Option.map_some]
/-- d[k] -/
structure wDg (st : Mem) (x y : W) (Q : PyData → Prop) : Prop where of ::
  go : wp (idxW st x y) Q
theorem we_idxD (h : wE C a r st fun x s1 => wE C i r s1 fun y s2 => wDg s2 x y fun d => Q (.val d) s2) : wE C (.idx a i) r st Q := by
  obtain ⟨⟨x, s1⟩, e1, ⟨y, s2⟩, e2, d, e5, q⟩ := h
  exact ⟨(.val d, s2), by simp only [ev, e1, e2, e5, Option.bind_some, Option.map_some], q⟩
theorem wdg_of {n : Nat} {b : Bool} {kvs : List PyData} {ks : List Int} {d : PyData} {Q : PyData → Prop} (h1 : st[n]? = some (b, kvs)) (h2 : dget kvs ks = some d) (q : Q d) : wDg st (.dic n) (.val (.tuple (ks.map .int))) Q := by
  have e : ∀ ns : List Int, intsD (ns.map .int) = some ns := fun ns => by
    induction ns with
    | nil => rfl
    | cons n ns ih => simp [intsD, ih]
  exact ⟨d, by simp [idxW, look, keyI, e, h1, h2], q⟩
theorem we_pk {k : Nat} {es : Exs} {n : Nat} (h0 : r[k]? = some (some (.loc n))) (h : wEs C es r st fun ws s1 => wZs s1 ws fun ds s2 => ds.length < lineN ∧ Q (.pk n ds) s2) : wE C (.pk k es) r st Q := by
  obtain ⟨⟨ws, s1⟩, e1, ⟨ds, s2⟩, e2, hl, q⟩ := h
  have e2' : frzs s1 ws = some (ds, s2) := e2
  have hl' : ds.length < lineN := hl
  exact ⟨(.pk n ds, s2), by simp only [ev, h0, Option.bind_some, id, e1, e2']; rw [if_pos hl'], q⟩
theorem we_slc {lo hi : Exs} (h : wE C a r st fun x s1 => wEs C lo r s1 fun l s2 => wp (looks s2 l) fun dl => wp (part1 dl) fun pl => wEs C hi r s2 fun h s3 => wp (looks s3 h) fun dh => wp (part1 dh) fun ph => wL s3 x fun dx => wp (slcD dx pl ph) fun d => Q (.val d) s3) : wE C (.slc a lo hi) r st Q := by
  obtain ⟨⟨x, s1⟩, e1, ⟨l, s2⟩, e2, dl, e3, pl, e4, ⟨h, s3⟩, e5, dh, e6, ph, e7, dx, e8, d, e9, q⟩ := h
  exact ⟨(.val d, s3), by simp only [ev, e1, e2, e3, e4, e5, e6, e7, e8, e9, Option.bind_some, Option.map_some], q⟩
theorem we_call {f : Nat} (h : wEs C es r st fun ws s1 => wC C f ws s1 Q) : wE C (.call f es) r st Q := by
  obtain ⟨⟨ws, s1⟩, e1, p, e2, q⟩ := h
  exact ⟨p, by simp only [ev, e1, Option.bind_some]; exact e2, q⟩
theorem we_blt {o : Blt} (h : wEs C es r st fun ws s1 => wp (looks s1 ws) fun ds => wBl o ds fun d => Q (.val d) s1) : wE C (.blt o es) r st Q := by
  obtain ⟨⟨ws, s1⟩, e1, ds, e2, d, e3, q⟩ := h
  exact ⟨(.val d, s1), by simp only [ev, e1, e2, e3, Option.bind_some, Option.map_some], q⟩
theorem wes_nil {Q : List W → Mem → Prop} (q : Q [] st) : wEs C .nil r st Q := ⟨([], st), by simp only [evs], q⟩
theorem wes_cons {Q : List W → Mem → Prop} {e : Ex} (h : wE C e r st fun w s1 => wEs C es r s1 fun ws s2 => Q (w :: ws) s2) : wEs C (.cons e es) r st Q := by
  obtain ⟨⟨w, s1⟩, e1, ⟨ws, s2⟩, e2, q⟩ := h
  exact ⟨(w :: ws, s2), by simp only [evs, e1, e2, Option.bind_some], q⟩
theorem wf_disp {Q : List PyData → Mem → Prop} (h : wEs C es r st fun ws s1 => wZs s1 ws Q) : wF C (.disp es) r st Q := by
  obtain ⟨⟨ws, s1⟩, e1, p, e2, q⟩ := h
  exact ⟨p, by simp only [evF, e1, Option.bind_some]; exact e2, q⟩
theorem wf_list {Q : List PyData → Mem → Prop} (h : wE C a r st fun x s1 => wp (seqOf s1 x) fun ds => Q ds s1) : wF C (.listOf a) r st Q := by
  obtain ⟨⟨x, s1⟩, e1, ds, e2, q⟩ := h
  exact ⟨(ds, s1), by simp only [evF, e1, e2, Option.bind_some, Option.map_some], q⟩
theorem wf_zip {Q : List PyData → Mem → Prop} {es : Exs} (h : wEs C es r st fun ws s1 => wp (zipLs s1 ws) fun ds => Q ds s1) : wF C (.zipL es) r st Q := by
  obtain ⟨⟨ws, s1⟩, e1, ds, e2, q⟩ := h
  exact ⟨(ds, s1), by simp only [evF, e1, e2, Option.bind_some, Option.map_some], q⟩
theorem wf_cat {b : Ex} {Q : List PyData → Mem → Prop} (h : wE C a r st fun x s1 => wE C b r s1 fun y s2 => wL s2 x fun dx => wL s2 y fun dy => wp (catLs dx dy) fun ds => Q ds s2) : wF C (.cat a b) r st Q := by
  obtain ⟨⟨x, s1⟩, e1, ⟨y, s2⟩, e2, dx, e3, dy, e4, ds, e5, q⟩ := h
  exact ⟨(ds, s2), by simp only [evF, e1, e2, e3, e4, e5, Option.bind_some, Option.map_some], q⟩
theorem wcat_of {xs ys : List PyData} {Q : List PyData → Prop} (h : xs.length + ys.length ≤ lineN) (q : Q (xs ++ ys)) : wp (catLs (.list xs) (.list ys)) Q := ⟨xs ++ ys, by simp only [catLs, catD, if_pos h], q⟩
theorem wi_seq {Q : List PyData → List Nat → Mem → Prop} (h : wE C a r st fun x s1 => wp (seqOf s1 x) fun ds => Q ds (locs1 x) s1) : wI C (.seq a) r st Q := by
  obtain ⟨⟨x, s1⟩, e1, ds, e2, q⟩ := h
  refine ⟨(ds, locs1 x, s1), ?_, q⟩
  have ei : itemsOf s1 x = some (ds, locs1 x, s1) := by
    have e2' : seqOf s1 x = some ds := e2
    cases x with
    | dic n => cases e2
    | _ => simp only [itemsOf, e2', Option.map_some]
  simp only [evI, e1, ei, Option.bind_some]
theorem wi_dic {Q : List PyData → List Nat → Mem → Prop} (h : wE C a r st fun x s1 => ∃ n b kvs, x = .dic n ∧ s1[n]? = some (b, kvs) ∧ Q (kvs.map dkey) [] (s1.set n (false, kvs))) : wI C (.seq a) r st Q := by
  obtain ⟨⟨x, s1⟩, e1, n, b, kvs, ex, e2, q⟩ := h
  obtain rfl : x = .dic n := ex
  exact ⟨(kvs.map dkey, [], s1.set n (false, kvs)), by simp only [evI, e1, Option.bind_some, itemsOf, e2, Option.map_some], q⟩
theorem wi_rng1 {Q : List PyData → List Nat → Mem → Prop} (h : wE C a r st fun x s1 => ∃ j : Int, x = .val (.int j) ∧ (-(2 ^ 60) ≤ j ∧ j ≤ (lineN : Nat)) ∧ Q (rngD 0 j.toNat) [] s1) : wI C (.rng1 a) r st Q := by
  obtain ⟨⟨x, s1⟩, e1, j, e, l, q⟩ := h
  exact ⟨(rngD 0 j.toNat, [], s1), by simp only [evI, e1, show x = .val (.int j) from e, Option.bind_some, if_pos l], q⟩
theorem wi_rng2 {Q : List PyData → List Nat → Mem → Prop} (h : wE C a r st fun x s1 => wE C b r s1 fun y s2 => ∃ j k : Int, x = .val (.int j) ∧ y = .val (.int k) ∧ (-(2 ^ 60) ≤ j ∧ j < 2 ^ 60 ∧ -(2 ^ 60) ≤ k ∧ k ≤ j + (lineN : Nat)) ∧ Q (rngD j (k - j).toNat) [] s2) : wI C (.rng2 a b) r st Q := by
  obtain ⟨⟨x, s1⟩, e1, ⟨y, s2⟩, e2, j, k, ex, ey, l, q⟩ := h
  exact ⟨(rngD j (k - j).toNat, [], s2), by simp only [evI, e1, e2, show x = .val (.int j) from ex, show y = .val (.int k) from ey, Option.bind_some, if_pos l], q⟩
theorem wi_enum {Q : List PyData → List Nat → Mem → Prop} (h : wE C a r st fun x s1 => wp (listOfW s1 x) fun ds => Q (enumD 0 ds) (locs1 x) s1) : wI C (.enum a) r st Q := by
  obtain ⟨⟨x, s1⟩, e1, ds, e2, q⟩ := h
  exact ⟨(enumD 0 ds, locs1 x, s1), by simp only [evI, e1, e2, Option.bind_some, Option.map_some], q⟩
end
section
variable {C : CallF} {r : Rho} {st : Mem} {Q : WR} {e : Ex} {s : Sx} {ss t f : Sxs}
/-- what follows a statement -/
def seqK (C : CallF) (ss : Sxs) (Q : WR) : WR := fun o r st => match o with
  | .nx => wSs C ss r st Q
  | o => Q o r st
theorem wss_nil (q : Q .nx r st) : wSs C .nil r st Q := ⟨(.nx, r, st), by simp only [exs], q⟩
theorem wss_cons (h : wS C s r st (seqK C ss Q)) : wSs C (.cons s ss) r st Q := by
  obtain ⟨⟨o, r1, s1⟩, e1, q⟩ := h
  cases o with
  | nx => obtain ⟨p, e2, q2⟩ := q; exact ⟨p, by simp only [exs, e1, Option.bind_some]; exact e2, q2⟩
  | brk => exact ⟨(.brk, r1, s1), by simp only [exs, e1, Option.bind_some], q⟩
  | ct => exact ⟨(.ct, r1, s1), by simp only [exs, e1, Option.bind_some], q⟩
  | ret w => exact ⟨(.ret w, r1, s1), by simp only [exs, e1, Option.bind_some], q⟩
theorem wk_nx (h : wSs C ss r st Q) : seqK C ss Q .nx r st := h
theorem wk_brk (h : Q .brk r st) : seqK C ss Q .brk r st := h
theorem wk_ct (h : Q .ct r st) : seqK C ss Q .ct r st := h
theorem wk_ret {w : W} (h : Q (.ret w) r st) : seqK C ss Q (.ret w) r st := h
theorem ws_asg {i : Nat} (h : wE C e r st fun w s1 => Q .nx (r.set i (some w)) s1) : wS C (.asg i e) r st Q := by
  obtain ⟨⟨w, s1⟩, e1, q⟩ := h
  exact ⟨(.nx, r.set i (some w), s1), by simp only [ex, e1, Option.bind_some], q⟩
theorem ws_new {i : Nat} {f : Fx} (h : wF C f r st fun ds s1 => Q .nx (r.set i (some (.loc s1.length))) (s1 ++ [(true, ds)])) : wS C (.new i f) r st Q := by
  obtain ⟨⟨ds, s1⟩, e1, q⟩ := h
  exact ⟨(.nx, r.set i (some (.loc s1.length)), s1 ++ [(true, ds)]), by simp only [ex, e1, Option.bind_some], q⟩
theorem ws_newD {i : Nat} (q : Q .nx (r.set i (some (.dic st.length))) (st ++ [(true, [])])) : wS C (.newD i) r st Q := ⟨(.nx, _, _), by simp only [ex], q⟩
theorem ws_asgT {ts : Tgs} (h : wE C e r st fun w s1 => wp (bindT (.tup ts) w r) fun r1 => Q .nx r1 s1) : wS C (.asgT ts e) r st Q := by
  obtain ⟨⟨w, s1⟩, e1, r1, e2, q⟩ := h
  exact ⟨(.nx, r1, s1), by simp only [ex, e1, e2, Option.bind_some], q⟩
theorem ws_par {is : List Nat} {es : Exs} (h : wEs C es r st fun ws s1 => wp (sets r is ws) fun r1 => Q .nx r1 s1) : wS C (.par is es) r st Q := by
  obtain ⟨⟨w, s1⟩, e1, r1, e2, q⟩ := h
  exact ⟨(.nx, r1, s1), by simp only [ex, e1, e2, Option.bind_some], q⟩
theorem ws_setI {a i : Ex} (h : wE C e r st fun z s1 => wE C a r s1 fun x s2 => wE C i r s2 fun y s3 => wZ s3 z fun d s4 => ∃ n k ds j, x = .loc n ∧ y = .val (.int k) ∧ s4[n]? = some (true, ds) ∧ ixN ds.length k = some j ∧ Q .nx r (s4.set n (true, ds.set j d))) : wS C (.setI a i e) r st Q := by
  obtain ⟨⟨z, s1⟩, e1, ⟨x, s2⟩, e2, ⟨y, s3⟩, e3, ⟨d, s4⟩, e4, n, k, ds, j, ex, ey, e5, e6, q⟩ := h
  exact ⟨(.nx, r, s4.set n (true, ds.set j d)), by simp only [Sk.ex, e1, e2, e3, e4, show x = .loc n from ex, show y = .val (.int k) from ey, e5, e6, Option.bind_some], q⟩
theorem ws_setD {a i : Ex} (h : wE C e r st fun z s1 => wE C a r s1 fun x s2 => wE C i r s2 fun y s3 => wZ s3 z fun d s4 => ∃ n kvs ks, x = .dic n ∧ y = .val (.tuple (ks.map .int)) ∧ s4[n]? = some (true, kvs) ∧ kvs.length < lineN ∧ Q .nx r (s4.set n (true, dput kvs ks d))) : wS C (.setI a i e) r st Q := by
  obtain ⟨⟨z, s1⟩, e1, ⟨x, s2⟩, e2, ⟨y, s3⟩, e3, ⟨d, s4⟩, e4, n, kvs, ks, ex, ey, e5, e6, q⟩ := h
  have ek : ∀ ns : List Int, intsD (ns.map .int) = some ns := fun ns => by
    induction ns with
    | nil => rfl
    | cons n ns ih => simp [intsD, ih]
  refine ⟨(.nx, r, s4.set n (true, dput kvs ks d)), ?_, q⟩
  simp only [Sk.ex, e1, e2, e3, e4, show x = .dic n from ex, show y = .val (.tuple (ks.map .int)) from ey, e5, keyI, ek, Option.bind_some]
  rw [if_pos e6]
theorem ws_aug {i : Nat} {o : BOp} (h : wp (r[i]?.bind id) fun x => wE C e r st fun y s1 => ∃ j k : Int, x = .val (.int j) ∧ y = .val (.int k) ∧ wB o (.int j) (.int k) fun d => Q .nx (r.set i (some (.val d))) s1) : wS C (.aug i o e) r st Q := by
  obtain ⟨x, e0, ⟨y, s1⟩, e1, j, k, ex, ey, d, e2, q⟩ := h
  exact ⟨(.nx, r.set i (some (.val d)), s1), by simp only [Sk.ex, e0, e1, show x = .val (.int j) from ex, show y = .val (.int k) from ey, e2, Option.bind_some], q⟩
theorem ws_expr (h : wE C e r st fun _ s1 => Q .nx r s1) : wS C (.expr e) r st Q := by
  obtain ⟨⟨w, s1⟩, e1, q⟩ := h
  exact ⟨(.nx, r, s1), by simp only [ex, e1, Option.bind_some], q⟩
theorem ws_ite (h : wE C e r st fun x s1 => Br x (wSs C t r s1 Q) (wSs C f r s1 Q)) : wS C (.ite e t f) r st Q := by
  obtain ⟨⟨x, s1⟩, e1, q⟩ := h
  match x, q with
  | .val (.bool true), q => obtain ⟨p, e2, q2⟩ := q.1 rfl; exact ⟨p, by simp only [ex, e1, Option.bind_some]; exact e2, q2⟩
  | .val (.bool false), q => obtain ⟨p, e2, q2⟩ := q.2 rfl; exact ⟨p, by simp only [ex, e1, Option.bind_some]; exact e2, q2⟩
theorem ws_ret (h : wE C e r st fun w s1 => Q (.ret w) r s1) : wS C (.ret e) r st Q := by
  obtain ⟨⟨w, s1⟩, e1, q⟩ := h
  exact ⟨(.ret w, r, s1), by simp only [ex, e1, Option.bind_some], q⟩
theorem ws_retF {f : Fx} (h : wF C f r st fun ds s1 => Q (.ret (.loc s1.length)) r (s1 ++ [(true, ds)])) : wS C (.retF f) r st Q := by
  obtain ⟨⟨w, s1⟩, e1, q⟩ := h
  exact ⟨(.ret (.loc s1.length), r, s1 ++ [(true, w)]), by simp only [ex, e1, Option.bind_some], q⟩
theorem ws_retN (q : Q (.ret (.val .none)) r st) : wS C .retN r st Q := ⟨(.ret (.val .none), r, st), by simp only [ex], q⟩
theorem ws_brk (q : Q .brk r st) : wS C .brk r st Q := ⟨(.brk, r, st), by simp only [ex], q⟩
theorem ws_ctn (q : Q .ct r st) : wS C .ctn r st Q := ⟨(.ct, r, st), by simp only [ex], q⟩
theorem ws_pass (q : Q .nx r st) : wS C .pass r st Q := ⟨(.nx, r, st), by simp only [ex], q⟩
/-- a for, by what holds ahead of each turn -/
theorem for_rule {f : PyData → Rho → Mem → Res} {ls : List Nat} {s0 : Mem} (I : List PyData → Rho → Mem → Prop) : ∀ (xs : List PyData) (r : Rho) (st : Mem),
    (∀ x xs r st, I (x :: xs) r st → wp (f x r st) fun p => match p.1 with
      | .nx => Stay ls s0 p.2.2 ∧ I xs p.2.1 p.2.2
      | .ct => Stay ls s0 p.2.2 ∧ I xs p.2.1 p.2.2
      | .brk => Q .nx p.2.1 p.2.2
      | .ret w => Q (.ret w) p.2.1 p.2.2) →
    (∀ r st, I [] r st → Q .nx r st) → I xs r st → wp (forLoop f ls s0 xs r st) fun p => Q p.1 p.2.1 p.2.2
  | [], r, st, _, he, hI => ⟨(.nx, r, st), by simp only [forLoop], he _ _ hI⟩
  | x :: xs, r, st, hs, he, hI => by
    obtain ⟨⟨o, r1, s1⟩, e1, q⟩ := hs x xs r st hI
    cases o with
    | nx =>
      obtain ⟨p, e2, q2⟩ := for_rule I xs r1 s1 hs he q.2
      exact ⟨p, by simp only [forLoop, e1, Option.bind_some]; rw [if_pos q.1]; exact e2, q2⟩
    | ct =>
      obtain ⟨p, e2, q2⟩ := for_rule I xs r1 s1 hs he q.2
      exact ⟨p, by simp only [forLoop, e1, Option.bind_some]; rw [if_pos q.1]; exact e2, q2⟩
    | brk => exact ⟨(.nx, r1, s1), by simp only [forLoop, e1, Option.bind_some], q⟩
    | ret w => exact ⟨(.ret w, r1, s1), by simp only [forLoop, e1, Option.bind_some], q⟩
/-- how a turn of a for ends -/
def turnK (ls : List Nat) (s0 : Mem) (I : Rho → Mem → Prop) (Q : WR) : WR := fun o r st => match o with
  | .nx => Stay ls s0 st ∧ I r st
  | .ct => Stay ls s0 st ∧ I r st
  | .brk => Q .nx r st
  | .ret w => Q (.ret w) r st
theorem ws_for {tg : Tg} {it : Itx} {bd : Sxs} (I : List PyData → List Nat → Mem → List PyData → Rho → Mem → Prop)
    (h : wI C it r st fun xs ls s0 => I xs ls s0 xs r s0 ∧ (∀ r st, I xs ls s0 [] r st → Q .nx r st) ∧ ∀ x ys r st, I xs ls s0 (x :: ys) r st → wp (bindT tg (.val x) r) fun r1 => wSs C bd r1 st (turnK ls s0 (I xs ls s0 ys) Q)) : wS C (.for1 tg it bd) r st Q := by
  obtain ⟨⟨xs, ls, s0⟩, e1, hI, he, hs⟩ := h
  obtain ⟨p, e2, q⟩ := for_rule (f := fun x r st => (bindT tg (.val x) r).bind fun r1 => exs C bd r1 st) (ls := ls) (s0 := s0) (Q := Q) (I xs ls s0) xs r s0 (fun x ys r st hI' => by
    obtain ⟨r1, e3, p, e4, q⟩ := hs x ys r st hI'
    refine ⟨p, by rw [e3]; exact e4, ?_⟩
    obtain ⟨o, r2, s2⟩ := p
    cases o <;> exact q) he hI
  exact ⟨p, by simp only [ex, e1, Option.bind_some]; exact e2, q⟩
/-- a while, by a measure and what holds ahead of each turn -/
theorem ws_whl {e : Ex} {bd : Sxs} (I : Rho → Mem → Prop) (m : Rho → Mem → Nat) (hI : I r st)
    (hs : ∀ r st, I r st → wE C e r st fun x s1 => Br x (wSs C bd r s1 (fun o r1 s2 => match o with
      | .nx => I r1 s2 ∧ m r1 s2 < m r st
      | .ct => I r1 s2 ∧ m r1 s2 < m r st
      | .brk => Q .nx r1 s2
      | .ret w => Q (.ret w) r1 s2)) (Q .nx r s1)) : wS C (.whl e bd) r st Q := by
  suffices h : ∀ n r st, m r st < n → I r st → wp (whl (fun r st => (ev C e r st).bind fun (x, s1) => match x with
      | .val (.bool k) => some (k, s1)
      | _ => none) (fun r st => exs C bd r st) r st) fun p => Q p.1 p.2.1 p.2.2 by
    obtain ⟨p, e, q⟩ := h _ r st (Nat.lt_succ_self _) hI
    exact ⟨p, by simp only [ex]; exact e, q⟩
  intro n
  induction n with
  | zero => intro r st h; exact absurd h (Nat.not_lt_zero _)
  | succ n ih =>
    intro r st hm hI
    rw [whl_eq]
    obtain ⟨⟨x, s1⟩, e1, q⟩ := hs r st hI
    match x, q with
    | .val (.bool false), q => exact ⟨(.nx, r, s1), by simp only [e1, Option.bind_some]; rfl, q.2 rfl⟩
    | .val (.bool true), q =>
      obtain ⟨⟨o, r1, s2⟩, e2, q2⟩ := q.1 rfl
      cases o with
      | nx =>
        have q2' : I r1 s2 ∧ m r1 s2 < m r st := q2
        obtain ⟨p, e3, q3⟩ := ih r1 s2 (by omega) q2'.1
        exact ⟨p, by simp only [e1, e2, Option.bind_some, if_true]; exact e3, q3⟩
      | ct =>
        have q2' : I r1 s2 ∧ m r1 s2 < m r st := q2
        obtain ⟨p, e3, q3⟩ := ih r1 s2 (by omega) q2'.1
        exact ⟨p, by simp only [e1, e2, Option.bind_some, if_true]; exact e3, q3⟩
      | brk => exact ⟨(.nx, r1, s2), by simp only [e1, e2, Option.bind_some, if_true], q2⟩
      | ret w => exact ⟨(.ret w, r1, s2), by simp only [e1, e2, Option.bind_some, if_true], q2⟩
end
/-! ### calls -/
/-- how a def ends -/
def doneK0 (lv : Bool) (n0 : Nat) (Q : WQ) : WR := fun o _ st => match o with
  | .ret w => wp (leave lv n0 st w) fun p => Q p.1 p.2
  | .nx => Q (.val .none) (st.take n0)
  | _ => False
structure doneK (lv : Bool) (n0 : Nat) (Q : WQ) (o : Out) (r : Rho) (st : Mem) : Prop where of ::
  go : doneK0 lv n0 Q o r st
theorem wc_call {P : Prg} {k f : Nat} {ws : List W} {st : Mem} {Q : WQ} {d : Fd} (hd : P[f]? = some d) (hl : ws.length = d.np)
    (h : wSs (callN P k) d.body (ws.map some ++ List.replicate (d.ns - ws.length) none) st (doneK d.live st.length Q)) : wC (callN P (k + 1)) f ws st Q := by
  obtain ⟨⟨o, r1, s1⟩, e1, ⟨q⟩⟩ := h
  match o, q with
  | .ret w, q =>
    obtain ⟨p, e2, q2⟩ := q
    exact ⟨p, by simp only [callN, hd, Option.bind_some, if_pos hl, e1, out1]; exact e2, q2⟩
  | .nx, q => exact ⟨(.val .none, s1.take st.length), by simp only [callN, hd, Option.bind_some, if_pos hl, e1, out1]; rfl, q⟩
theorem wd_val {lv : Bool} {n0 : Nat} {Q : WQ} {r : Rho} {st : Mem} {d : PyData} (h : Q (.val d) (st.take n0)) : doneK lv n0 Q (.ret (.val d)) r st := ⟨⟨(.val d, st.take n0), rfl, h⟩⟩
end Sk

/-! SkE: values, operators; fractions; the tape -/
namespace Sk
open PySem PySem.Spec PyProof.Rows L2

theorem wp_is {α : Type} {x : Option α} {a : α} {Q : α → Prop} (h : x = some a) (q : Q a) : wp x Q := ⟨a, h, q⟩
section
variable {st : Mem} {Q : PyData → Prop}
theorem wl_val {d : PyData} (q : Q d) : wL st (.val d) Q := ⟨d, rfl, q⟩
theorem wl_loc {n : Nat} {l : Bool} {ds : List PyData} (h : st[n]? = some (l, ds)) (q : Q (.list ds)) : wL st (.loc n) Q := ⟨_, by simp [lookD, h], q⟩
theorem wz_val {d : PyData} {Q : PyData → Mem → Prop} (q : Q d st) : wZ st (.val d) Q := ⟨(d, st), rfl, q⟩
theorem wz_loc {n : Nat} {l : Bool} {ds : List PyData} {Q : PyData → Mem → Prop} (h : st[n]? = some (l, ds)) (q : Q (.list ds) (st.set n (false, ds))) : wZ st (.loc n) Q := ⟨(.list ds, st.set n (false, ds)), by simp [frz, h], q⟩
theorem wzs_nil {Q : List PyData → Mem → Prop} (q : Q [] st) : wZs st [] Q := ⟨([], st), rfl, q⟩
theorem wzs_cons {w : W} {ws : List W} {Q : List PyData → Mem → Prop} (h : wZ st w fun d s1 => wZs s1 ws fun ds s2 => Q (d :: ds) s2) : wZs st (w :: ws) Q := by
  obtain ⟨⟨d, s1⟩, e1, ⟨ds, s2⟩, e2, q⟩ := h
  exact ⟨(d :: ds, s2), by simp only [frzs, e1, e2, Option.bind_some], q⟩
theorem wb_add {i j : Int} (q : Q (.int (i + j))) : wB .add (.int i) (.int j) Q := ⟨_, rfl, q⟩
theorem wb_sub {i j : Int} (q : Q (.int (i - j))) : wB .sub (.int i) (.int j) Q := ⟨_, rfl, q⟩
theorem wb_mul {i j : Int} (h : i.natAbs.log2 + j.natAbs.log2 < 100000000) (q : Q (.int (i * j))) : wB .mul (.int i) (.int j) Q := ⟨_, by simp only [bop]; exact if_pos h, q⟩
theorem wb_div {i j : Int} (h : 0 < j) (l : j.natAbs.log2 < 9000) (q : Q (.int (i / j))) : wB .div (.int i) (.int j) Q := ⟨_, by simp only [bop]; exact if_pos ⟨h, l⟩, q⟩
theorem wb_mod {i j : Int} (h : 0 < j) (q : Q (.int (i % j))) : wB .mod (.int i) (.int j) Q := ⟨_, by simp only [bop]; exact if_pos h, q⟩
theorem wb_pow {i j v : Int} (h : 0 ≤ j ∧ j ≤ 1000000 ∧ i.natAbs < 2 ^ 64) (e : i ^ j.toNat = v) (q : Q (.int v)) : wB .pow (.int i) (.int j) Q := ⟨.int v, by simp only [bop, if_pos h, e], q⟩
theorem wb_addS {x y : Str} (h : x.length + y.length ≤ lineN) (q : Q (.str (x ++ y))) : wB .add (.str x) (.str y) Q := ⟨_, by simp only [bop]; exact if_pos h, q⟩
theorem wb_addL {x y : List PyData} (h : x.length + y.length ≤ lineN) (q : Q (.list (x ++ y))) : wB .add (.list x) (.list y) Q := ⟨.list (x ++ y), by simp only [bop, catD, if_pos h, Option.map_some], q⟩
theorem wb_addT {x y : List PyData} (h : x.length + y.length ≤ lineN) (q : Q (.tuple (x ++ y))) : wB .add (.tuple x) (.tuple y) Q := ⟨.tuple (x ++ y), by simp only [bop, catD, if_pos h, Option.map_some], q⟩
variable {P : Bool → Prop}
theorem wc_lt {i j : Int} (q : P (decide (i < j))) : wP .lt (.int i) (.int j) P := ⟨_, rfl, q⟩
theorem wc_le {i j : Int} (q : P (decide (i ≤ j))) : wP .le (.int i) (.int j) P := ⟨_, rfl, q⟩
theorem wc_gt {i j : Int} (q : P (decide (j < i))) : wP .gt (.int i) (.int j) P := ⟨_, rfl, q⟩
theorem wc_ge {i j : Int} (q : P (decide (j ≤ i))) : wP .ge (.int i) (.int j) P := ⟨_, rfl, q⟩
theorem wc_eq {i j : Int} (q : P (decide (i = j))) : wP .eq (.int i) (.int j) P := ⟨_, rfl, q⟩
theorem wc_eqS {i j : Str} (q : P (decide (i = j))) : wP .eq (.str i) (.str j) P := ⟨_, rfl, q⟩
theorem wc_ne {i j : Int} (q : P (!decide (i = j))) : wP .ne (.int i) (.int j) P := ⟨_, rfl, q⟩
theorem wc_neS {i j : Str} (q : P (!decide (i = j))) : wP .ne (.str i) (.str j) P := ⟨_, rfl, q⟩
theorem wx_is {x y d : PyData} (h : idxD x y = some d) (q : Q d) : wIx x y Q := ⟨d, h, q⟩
theorem wbl_is {b : Blt} {ds : List PyData} {d : PyData} (h : bltD b ds = some d) (q : Q d) : wBl b ds Q := ⟨d, h, q⟩
theorem br_dec {p : Prop} [Decidable p] {t f : Prop} (h : p → t) (g : ¬p → f) : Br (.val (.bool (decide p))) t f := ⟨fun z => h (of_decide_eq_true z), fun z => g (of_decide_eq_false z)⟩
theorem br_ndec {p : Prop} [Decidable p] {t f : Prop} (h : ¬p → t) (g : p → f) : Br (.val (.bool (!decide p))) t f := ⟨fun z => h (by simpa using z), fun z => g (by simpa using z)⟩
theorem br_t {t f : Prop} (h : t) : Br (.val (.bool true)) t f := ⟨fun _ => h, (fun z => by cases z)⟩
theorem br_f {t f : Prop} (h : f) : Br (.val (.bool false)) t f := ⟨(fun z => by cases z), fun _ => h⟩
/-- an item at a drawn place -/
theorem wx_any {ds : List PyData} {v : Int} (h0 : 0 ≤ v) (h1 : v < ds.length) (q : ∀ d ∈ ds, Q d) : wIx (.list ds) (.int v) Q := by
  obtain ⟨n, rfl⟩ := Int.eq_ofNat_of_zero_le h0
  have hn : n < ds.length := by omega
  refine ⟨ds[n], ?_, q _ (List.getElem_mem hn)⟩
  show atI ds _ = _
  unfold atI
  have : ixN ds.length (n : Int) = some n := by
    unfold ixN
    simp only [Int.ofNat_nonneg, Int.natCast_nonneg, if_true]
    simp [hn]
  simp [this, hn]
end
theorem log2_le {a n : Nat} (h : a < 2 ^ n) : a.log2 ≤ n := by
  by_cases h0 : a = 0
  · subst h0; simp
  · exact Nat.le_of_lt ((Nat.log2_lt h0).mpr h)
theorem mul_ok {i j : Int} {m n : Nat} (hi : i.natAbs < 2 ^ m) (hj : j.natAbs < 2 ^ n) (h : m + n < 100000000) : i.natAbs.log2 + j.natAbs.log2 < 100000000 := by
  have := log2_le hi
  have := log2_le hj
  omega
theorem mul_ok60 {i j : Int} (hi : -(2 ^ 100) < i ∧ i < 2 ^ 100) (hj : -(2 ^ 100) < j ∧ j < 2 ^ 100) : i.natAbs.log2 + j.natAbs.log2 < 100000000 := mul_ok (m := 100) (n := 100) (by omega) (by omega) (by decide)
theorem lt_log2 {a n : Nat} (h : a.log2 ≤ n) : a < 2 ^ (n + 1) := lt_two_pow_of_log2_lt (by omega)

/-! ### fractions -/
def F (q : Rat) : PyData := .tuple [.int q.num, .int q.den]
/-- top and bottom of so many bits -/
def Sz (n : Nat) (q : Rat) : Prop := q.num.natAbs < 2 ^ n ∧ q.den < 2 ^ n
theorem Sz.mono {m n : Nat} {q : Rat} (h : Sz m q) (l : m ≤ n) : Sz n q := ⟨Nat.lt_of_lt_of_le h.1 (Nat.pow_le_pow_right (by decide) l), Nat.lt_of_lt_of_le h.2 (Nat.pow_le_pow_right (by decide) l)⟩
theorem F_inj {p q : Rat} (h : F p = F q) : p = q := by
  simp only [F, PyData.tuple.injEq, List.cons.injEq, PyData.int.injEq, and_true] at h
  exact Rat.ext h.1 (by omega)
theorem Fint (n : Int) : F (n : Rat) = .tuple [.int n, .int 1] := rfl
theorem num_div (t b : Int) : ((t : Rat) / (b : Rat)).num = b.sign * t / (b.gcd t : Nat) := by rw [← Rat.divInt_eq_div, Rat.num_divInt]
theorem den_div (t b : Int) (h : b ≠ 0) : ((t : Rat) / (b : Rat)).den = b.natAbs / (b.gcd t : Nat) := by rw [← Rat.divInt_eq_div, Rat.den_divInt, if_neg h]
theorem div_le_natAbs (a : Int) (n : Nat) : (a / (n : Int)).natAbs ≤ a.natAbs := by
  exact Int.natAbs_ediv_le_natAbs a n
theorem sz_part {t b : Int} {n : Nat} (hb : b ≠ 0) (ht : t.natAbs < 2 ^ n) (hb2 : b.natAbs < 2 ^ n) : Sz n ((t : Rat) / (b : Rat)) := by
  refine ⟨?_, ?_⟩
  · rw [num_div]
    have h1 := div_le_natAbs (b.sign * t) (b.gcd t)
    have h2 : (b.sign * t).natAbs = t.natAbs := by rw [Int.natAbs_mul, Int.natAbs_sign_of_ne_zero hb, Nat.one_mul]
    omega
  · rw [den_div t b hb]
    have := Nat.div_le_self b.natAbs (b.gcd t)
    omega
theorem natAbs_mul_lt {a b : Int} {m n : Nat} (ha : a.natAbs < 2 ^ m) (hb : b.natAbs < 2 ^ n) : (a * b).natAbs < 2 ^ (m + n) := by
  rw [Int.natAbs_mul, Nat.pow_add]
  exact Nat.mul_lt_mul'' ha hb
theorem natAbs_add_lt {a b : Int} {n : Nat} (ha : a.natAbs < 2 ^ n) (hb : b.natAbs < 2 ^ n) : (a + b).natAbs < 2 ^ (n + 1) := by
  have := Int.natAbs_add_le a b
  rw [Nat.pow_succ]
  omega
theorem natAbs_sub_lt {a b : Int} {n : Nat} (ha : a.natAbs < 2 ^ n) (hb : b.natAbs < 2 ^ n) : (a - b).natAbs < 2 ^ (n + 1) := by
  have := Int.natAbs_sub_le a b
  rw [Nat.pow_succ]
  omega
theorem den_natAbs (q : Rat) : ((q.den : Nat) : Int).natAbs = q.den := by omega
theorem cross {p q : Rat} {a b : Nat} (hp : Sz a p) (hq : Sz b q) : (p.num * (q.den : Int)).natAbs < 2 ^ (a + b) := natAbs_mul_lt hp.1 (by rw [den_natAbs]; exact hq.2)
theorem crossD {p q : Rat} {a b : Nat} (hp : Sz a p) (hq : Sz b q) : ((p.den : Int) * (q.den : Int)).natAbs < 2 ^ (a + b) := natAbs_mul_lt (by rw [den_natAbs]; exact hp.2) (by rw [den_natAbs]; exact hq.2)
theorem lt_pow_succ {a n : Nat} (h : a < 2 ^ n) : a < 2 ^ (n + 1) := by rw [Nat.pow_succ]; omega
theorem rat_add (p q : Rat) : ((p.num * (q.den : Int) + q.num * (p.den : Int) : Int) : Rat) / (((p.den : Int) * (q.den : Int) : Int) : Rat) = p + q := by
  rw [Rat.add_def', ← Rat.divInt_ofNat, Rat.divInt_eq_div, Int.natCast_mul]
theorem rat_sub (p q : Rat) : ((p.num * (q.den : Int) - q.num * (p.den : Int) : Int) : Rat) / (((p.den : Int) * (q.den : Int) : Int) : Rat) = p - q := by
  rw [Rat.sub_def', ← Rat.divInt_ofNat, Rat.divInt_eq_div, Int.natCast_mul]
theorem rat_mul (p q : Rat) : ((p.num * q.num : Int) : Rat) / (((p.den : Int) * (q.den : Int) : Int) : Rat) = p * q := by
  rw [Rat.mul_def', ← Rat.divInt_ofNat, Rat.divInt_eq_div, Int.natCast_mul]
theorem den_ne (q : Rat) : (q.den : Int) ≠ 0 := by have := q.den_pos; omega
theorem dens_ne (p q : Rat) : (p.den : Int) * (q.den : Int) ≠ 0 := Int.mul_ne_zero (den_ne p) (den_ne q)
theorem sz_add {p q : Rat} {a b : Nat} (hp : Sz a p) (hq : Sz b q) : Sz (a + b + 1) (p + q) := by
  rw [← rat_add]
  exact sz_part (dens_ne p q) (natAbs_add_lt (cross hp hq) (by rw [Nat.add_comm]; exact cross hq hp)) (lt_pow_succ (crossD hp hq))
theorem sz_sub {p q : Rat} {a b : Nat} (hp : Sz a p) (hq : Sz b q) : Sz (a + b + 1) (p - q) := by
  rw [← rat_sub]
  exact sz_part (dens_ne p q) (natAbs_sub_lt (cross hp hq) (by rw [Nat.add_comm]; exact cross hq hp)) (lt_pow_succ (crossD hp hq))
theorem sz_mul {p q : Rat} {a b : Nat} (hp : Sz a p) (hq : Sz b q) : Sz (a + b) (p * q) := by
  rw [← rat_mul]
  exact sz_part (dens_ne p q) (natAbs_mul_lt hp.1 hq.1) (crossD hp hq)
theorem sz_int {i : Int} {n : Nat} (hn : 0 < n) (h : i.natAbs < 2 ^ n) : Sz n (i : Rat) := ⟨h, by show 1 < 2 ^ n; exact Nat.one_lt_two_pow (by omega)⟩

/-- the common loop of lowest terms: one, other behind one another -/
theorem gcd_step {a b : Int} (ha : 0 ≤ a) (hb : 0 < b) : Int.gcd b (a % b) = Int.gcd a b := by
  obtain ⟨m, rfl⟩ := Int.eq_ofNat_of_zero_le ha
  obtain ⟨n, rfl⟩ := Int.eq_ofNat_of_zero_le (Int.le_of_lt hb)
  rw [← Int.natCast_emod, Int.gcd_natCast_natCast, Int.gcd_natCast_natCast, Nat.gcd_comm n, ← Nat.gcd_rec, Nat.gcd_comm]

/-! ### the tape -/
structure Tp (b : Mem) (n : Nat) (st : Mem) : Prop where
  len : st.length = b.length
  oth : ∀ m, m ≠ n → st[m]? = b[m]?
  cell : ∃ d x : Int, st[n]? = some (true, [.int d, .int x]) ∧ 0 ≤ d ∧ d.natAbs.log2 ≤ 1048576 ∧ 0 ≤ x ∧ x < 2147483647
theorem Tp.trans {a b c : Mem} {n : Nat} (h : Tp a n b) (g : Tp b n c) : Tp a n c := ⟨g.len.trans h.len, fun m hm => (g.oth m hm).trans (h.oth m hm), g.cell⟩
theorem Tp.base {b st : Mem} {n : Nat} (h : Tp b n st) : Tp st n st := ⟨rfl, fun _ _ => rfl, h.cell⟩
theorem Tp.take {b st : Mem} {n : Nat} (h : Tp b n st) : st.take b.length = st := List.take_of_length_le (by rw [h.len]; exact Nat.le_refl _)
theorem Tp.set {b st : Mem} {n : Nat} {d x : Int} (h : Tp b n st) (hd : 0 ≤ d) (hl : d.natAbs.log2 ≤ 1048576) (hx : 0 ≤ x) (hx2 : x < 2147483647) : Tp b n (st.set n (true, [.int d, .int x])) := by
  obtain ⟨d', x', h', _⟩ := h.cell
  have hn : n < st.length := (List.getElem?_eq_some_iff.mp h').1
  refine ⟨by rw [List.length_set]; exact h.len, fun m hm => ?_, d, x, ?_, hd, hl, hx, hx2⟩
  · rw [List.getElem?_set_ne (fun e => hm e.symm)]; exact h.oth m hm
  · rw [List.getElem?_set_self hn]
/-- a def that does no more than draw ends -/
theorem wd_tp {lv : Bool} {Q : WQ} {r : Rho} {b st : Mem} {n : Nat} {d : PyData} (T : Tp b n st) (h : Q (.val d) st) : doneK lv b.length Q (.ret (.val d)) r st := wd_val (by rw [T.take]; exact h)
theorem wd_same {lv : Bool} {Q : WQ} {r : Rho} {st : Mem} {d : PyData} (h : Q (.val d) st) : doneK lv st.length Q (.ret (.val d)) r st := wd_val (by rw [List.take_length]; exact h)
/-- a def that hands back a new list -/
theorem wd_new {Q : WQ} {r : Rho} {st : Mem} {ds : List PyData} (h : Q (.loc st.length) (st ++ [(true, ds)])) : doneK true st.length Q (.ret (.loc st.length)) r (st ++ [(true, ds)]) :=
  ⟨⟨(.loc st.length, st ++ [(true, ds)]), by simp [leave], h⟩⟩
theorem Tp.new {st : Mem} {d x : Int} (hd : 0 ≤ d) (hl : d.natAbs.log2 ≤ 1048576) (hx : 0 ≤ x) (hx2 : x < 2147483647) : Tp (st ++ [(true, [.int d, .int x])]) st.length (st ++ [(true, [.int d, .int x])]) :=
  ⟨rfl, fun _ _ => rfl, d, x, by simp, hd, hl, hx, hx2⟩
theorem abs_mul_int {c : Int} {b : Bool} (h : c.natAbs.log2 ≤ 1048576) : ((c.natAbs : Int) * (if b then 1 else 0)).natAbs.log2 ≤ 1048576 := by
  cases b
  · simp
  · simpa using h
theorem wx_scr {ns : List Int} {i : Int} {Q : PyData → Prop} (h0 : 0 ≤ i) (h1 : i < ns.length) (h : ∀ z ∈ ns, Q (.int z)) : wIx (.list (ns.map .int)) (.int i) Q :=
  wx_any h0 (by rw [List.length_map]; exact h1) fun d hd => by
    obtain ⟨z, hz, rfl⟩ := List.mem_map.mp hd
    exact h z hz
end Sk
namespace Sk
open PySem PySem.Spec PyProof.Rows L2
theorem log2_lt_of {a n : Nat} (h : a < 2 ^ n) (hn : n < 9000) : a.log2 < 9000 := by
  have := log2_le h
  omega
theorem gcd_pos {a b : Int} (hb : b ≠ 0) : 0 < Int.gcd a b := Int.gcd_pos_of_ne_zero_right a hb
theorem gcd_lt {a b : Int} {n : Nat} (hb : b ≠ 0) (h : b.natAbs < 2 ^ n) : Int.gcd a b < 2 ^ n := by
  have : Int.gcd a b ≤ b.natAbs := Nat.le_of_dvd (by omega) (Int.gcd_dvd_natAbs_right a b)
  omega
/-- the common loop of lowest terms, in two names next to one another or not -/
theorem gcd_whl {C : CallF} {st : Mem} {Q : WR} {t b : Int} {i j : Nat} {r : Rho} (hb : b ≠ 0) (hij : i ≠ j) (hi : i < r.length) (hj : j < r.length)
    (h1 : r[i]? = some (some (.val (.int t.natAbs)))) (h2 : r[j]? = some (some (.val (.int b.natAbs))))
    (h : ∀ r', r'.length = r.length → (∀ m, m ≠ i → m ≠ j → r'[m]? = r[m]?) → r'[i]? = some (some (.val (.int (Int.gcd t b : Nat)))) → Q .nx r' st) :
    wS C (.whl (.cmp .gt (.var j) (.con (.int 0))) (.cons (.par [i, j] (.cons (.var j) (.cons (.bin .mod (.var i) (.var j)) .nil))) .nil)) r st Q := by
  refine ws_whl (fun r1 s => s = st ∧ r1.length = r.length ∧ (∀ m, m ≠ i → m ≠ j → r1[m]? = r[m]?) ∧ ∃ x y : Nat, r1[i]? = some (some (.val (.int x))) ∧ r1[j]? = some (some (.val (.int y))) ∧ Nat.gcd x y = Int.gcd t b)
    (fun r1 _ => match r1[j]? with
      | some (some (.val (.int y))) => y.natAbs
      | _ => 0) ⟨rfl, rfl, fun _ _ _ => rfl, _, _, h1, h2, rfl⟩ fun r1 s ⟨es, el, eo, x, y, e1, e2, eg⟩ => ?_
  subst es
  refine we_cmp (we_var e2 (we_con (wl_val (wl_val (wc_gt (br_dec (fun hy => ?_) (fun hy => ?_)))))))
  · refine wss_cons (ws_par (wes_cons (we_var e2 (wes_cons (we_bin (we_var e1 (we_var e2 (wl_val (wl_val (wb_mod hy (wes_nil ⟨_, rfl, wk_nx (wss_nil ?_)⟩)))))))))))
    have e3 : ((r1.set i (some (.val (.int y)))).set j (some (.val (.int ((x : Int) % (y : Int))))))[j]? = some (some (.val (.int ((x : Int) % (y : Int))))) := by
      rw [List.getElem?_set_self (by rw [List.length_set, el]; exact hj)]
    refine ⟨⟨rfl, by simp [el], fun m a c => by rw [List.getElem?_set_ne (fun e => c e.symm), List.getElem?_set_ne (fun e => a e.symm)]; exact eo m a c, y, x % y, ?_, ?_, ?_⟩, ?_⟩
    · rw [List.getElem?_set_ne (fun e => hij e.symm), List.getElem?_set_self (by rw [el]; exact hi)]
    · rw [e3, Int.natCast_emod]
    · rw [← eg, Nat.gcd_comm y, ← Nat.gcd_rec, Nat.gcd_comm]
    · rw [e2]
      show (match ((r1.set i (some (.val (.int y)))).set j (some (.val (.int ((x : Int) % (y : Int))))))[j]? with
        | some (some (.val (.int y))) => y.natAbs
        | _ => 0) < _
      rw [e3]
      have : ((x : Int) % (y : Int)) < y := Int.emod_lt_of_pos _ hy
      have : 0 ≤ ((x : Int) % (y : Int)) := Int.emod_nonneg _ (by omega)
      show ((x : Int) % (y : Int)).natAbs < (y : Int).natAbs
      omega
  · have : y = 0 := by omega
    subst this
    exact h r1 el eo (by rw [e1, ← eg, Nat.gcd_zero_right])
theorem part_num {t b : Int} (hb : b ≠ 0) : b.sign * t / (Int.gcd t b : Nat) = ((t : Rat) / (b : Rat)).num := by rw [num_div, Int.gcd_comm]
theorem part_den {t b : Int} (hb : b ≠ 0) : b.sign * b / (Int.gcd t b : Nat) = ((t : Rat) / (b : Rat)).den := by
  rw [den_div t b hb, Int.gcd_comm, Int.natCast_ediv, Int.sign_mul_self]
theorem sign_is {b : Int} (hb : b ≠ 0) : 1 - 2 * (if decide (b < 0) = true then (1 : Int) else 0) = b.sign := by
  by_cases h : b < 0
  · simp [h, Int.sign_eq_neg_one_of_neg h]
  · simp [h, Int.sign_eq_one_of_pos (show 0 < b by omega)]
theorem log2_sum {a b m n : Nat} (ha : a < 2 ^ m) (hb : b < 2 ^ n) (h : m + n < 100000000) : a.log2 + b.log2 < 100000000 := by
  have := log2_le ha
  have := log2_le hb
  omega
theorem rat_div_pos {t b : Int} (ht : 0 < t) (hb : 0 < b) : (0 : Rat) < (t : Rat) / (b : Rat) := by
  have hb' : (0 : Rat) < (b : Rat) := Rat.intCast_pos.mpr hb
  rw [Rat.lt_div_iff hb', Rat.zero_mul]
  exact Rat.intCast_pos.mpr ht
theorem rat_div_nonneg {t b : Int} (ht : 0 ≤ t) (hb : 0 ≤ b) : (0 : Rat) ≤ (t : Rat) / (b : Rat) := by
  rw [← Rat.divInt_eq_div]; exact Rat.divInt_nonneg ht hb
end Sk

/-! SkF: data that is compared and shown -/
namespace Sk
open PySem PySem.Spec PyProof.Rows L2
def Nc (k n : Nat) (d : PyData) : Prop := okd k d = true ∧ d.showable = true ∧ d.shown.length ≤ n
def NcL (k n : Nat) (ds : List PyData) : Prop := ds.all (okd k) = true ∧ PyData.showableAll ds = true ∧ piled (PyData.shownAll ds) ≤ n
theorem okd_mono : ∀ (n m : Nat) (d : PyData), n ≤ m → okd n d = true → okd m d = true
  | n, 0, d, h, e => by obtain rfl : n = 0 := by omega
                        exact e
  | 0, m + 1, d, h, e => by cases d <;> first | exact e | (simp [okd, flatD] at e; done)
  | n + 1, m + 1, d, h, e => by
    cases d with
    | list ds => simp only [okd, List.all_eq_true] at e ⊢; exact fun x hx => okd_mono n m x (by omega) (e x hx)
    | tuple ds => simp only [okd, List.all_eq_true] at e ⊢; exact fun x hx => okd_mono n m x (by omega) (e x hx)
    | _ => exact e
theorem Nc.mono {k n k' n' : Nat} {d : PyData} (h : Nc k n d) (hk : k ≤ k') (hn : n ≤ n') : Nc k' n' d := ⟨okd_mono _ _ _ hk h.1, h.2.1, Nat.le_trans h.2.2 hn⟩
theorem nc_int {i : Int} {m : Nat} (h : i.natAbs < 2 ^ m) (hm : m ≤ 1900) : Nc 0 (m + 2) (.int i) := by
  have := log2_le h
  refine ⟨rfl, by simp only [PyData.showable]; exact decide_eq_true (by omega), ?_⟩
  have := int_text_length_le (a := i) (k := m + 1) (by omega) (by omega)
  show (PyData.shown (.int i)).length ≤ _
  simp only [PyData.shown]
  rw [PySem.ofString_length]
  exact this
theorem int_b (b : Bool) : (if b = true then (1 : Int) else 0).natAbs.log2 ≤ 0 := by cases b <;> decide
theorem nc_none : Nc 0 4 .none := ⟨rfl, rfl, by decide⟩
theorem nc_bool {b : Bool} : Nc 0 5 (.bool b) := by cases b <;> exact ⟨rfl, rfl, by decide⟩
theorem ncl_nil : NcL 0 0 [] := ⟨rfl, rfl, Nat.le_refl _⟩
theorem ncl_cons {k k' n n' : Nat} {d : PyData} {ds : List PyData} (h : Nc k n d) (g : NcL k' n' ds) : NcL (max k k') (n + 2 + n') (d :: ds) := by
  refine ⟨?_, ?_, ?_⟩
  · rw [List.all_cons, okd_mono _ _ _ (Nat.le_max_left k k') h.1, Bool.true_and, List.all_eq_true]
    exact fun x hx => okd_mono _ _ _ (Nat.le_max_right k k') (List.all_eq_true.mp g.1 x hx)
  · simp only [PyData.showableAll, h.2.1, g.2.1, Bool.and_self]
  · have h1 := h.2.2
    have h2 := g.2.2
    simp only [PyData.shownAll]
    rw [piled_cons]
    omega
theorem ncl_all {k n : Nat} : ∀ {ds : List PyData}, (∀ d ∈ ds, Nc k n d) → NcL k ((n + 2) * ds.length) ds
  | [], _ => ⟨rfl, rfl, Nat.le_refl _⟩
  | d :: ds, h => by
    have g := ncl_cons (h d (List.mem_cons_self ..)) (ncl_all fun x hx => h x (List.mem_cons_of_mem _ hx))
    rw [Nat.max_self] at g
    refine ⟨g.1, g.2.1, Nat.le_trans g.2.2 ?_⟩
    rw [List.length_cons, Nat.mul_succ]
    omega
theorem tupleText_le (ts : List Str) : (tupleText ts).length ≤ piled ts + 4 := by
  unfold tupleText
  rw [strLen_append, strLen_append]
  have e1 : ((("(" : String) : Str)).length = 1 := rfl
  have e3 : (((if ts.length == 1 then ",)" else ")" : String) : Str)).length ≤ 2 := by split <;> decide
  rw [e1]
  by_cases h : ts = []
  · subst h
    have : (Str.join ", " ([] : List Str)).length = 0 := by decide
    omega
  · have := join_length_add ts h
    omega
theorem textFrom_le : ∀ (ts : List Str) (k : Nat) (acc : Str), (textFrom k acc ts).length ≤ acc.length + piled ts
  | [], _, acc => by show acc.length ≤ acc.length + 0; omega
  | t :: r, k, acc => by
    have ih := textFrom_le r (k + 1) (acc ++ (if k > 0 then ", " else "" : String) ++ t)
    have e : (acc ++ (if k > 0 then ", " else "" : String) ++ t).length = acc.length + (if k > 0 then 2 else 0) + t.length := by
      rw [strLen_append, strLen_append]
      split <;> rfl
    have : (if k > 0 then 2 else 0 : Nat) ≤ 2 := by split <;> decide
    show (textFrom (k + 1) _ r).length ≤ _
    rw [piled_cons]
    omega
theorem listText_le (ts : List Str) : (listText ts).length ≤ piled ts + 4 := by
  unfold listText
  rw [strLen_append]
  have h := textFrom_le ts 0 "["
  have e1 : ((("[" : String) : Str)).length = 1 := rfl
  have e2 : ((("]" : String) : Str)).length = 1 := rfl
  omega
theorem nc_tuple {k n : Nat} {ds : List PyData} (h : NcL k n ds) : Nc (k + 1) (n + 4) (.tuple ds) := by
  refine ⟨by simpa [okd] using h.1, by simpa [PyData.showable] using h.2.1, ?_⟩
  have := tupleText_le (PyData.shownAll ds)
  have := h.2.2
  simp only [PyData.shown]
  omega
theorem nc_list {k n : Nat} {ds : List PyData} (h : NcL k n ds) : Nc (k + 1) (n + 4) (.list ds) := by
  refine ⟨by simpa [okd] using h.1, by simpa [PyData.showable] using h.2.1, ?_⟩
  have := listText_le (PyData.shownAll ds)
  have := h.2.2
  simp only [PyData.shown]
  omega
theorem nc_F {m : Nat} {q : Rat} (h : Sz m q) (hm : m ≤ 1900) : Nc 1 (2 * m + 12) (F q) :=
  (nc_tuple (ncl_cons (nc_int h.1 hm) (ncl_cons (nc_int (i := q.den) (by rw [den_natAbs]; exact h.2) hm) ncl_nil))).mono (by decide) (by omega)
theorem nc_fit {k n : Nat} {d : PyData} (h : Nc k n d) (hk : k ≤ 60) : fit d = true := okd_mono _ _ _ hk h.1
theorem eqv_self {d : PyData} (h : fit d = true) : PyData.eqv d d = true := SeqAt.eqv_refl d (okd_can 60 d h).1
/-- what is equal, told so -/
theorem wc_eqV {d : PyData} {k n : Nat} {P : Bool → Prop} (h : Nc k n d) (hk : k ≤ 60) (q : P true) : wP .eq d d P := by
  have hf := nc_fit h hk
  refine ⟨true, ?_, q⟩
  show eqD d d = some true
  unfold eqD
  split
  · simp
  · simp
  · rw [hf, eqv_self hf]; rfl
theorem wbl_str {ds : List PyData} {d : PyData} {k n : Nat} {Q : PyData → Prop} (hd : d = .list ds ∨ d = .tuple ds) (h : Nc k n d) (hk : k ≤ 60) (hn : n ≤ 16777216) (q : Q (.str d.shown)) : wBl .str1 [d] Q := by
  have : shw d = some (.str d.shown) := by
    unfold shw
    have h2 := h.2.2
    rw [h.2.1, nc_fit h hk, decide_eq_true (show d.shown.length ≤ sizeLine by unfold sizeLine; omega)]
    rfl
  refine ⟨_, ?_, q⟩
  rcases hd with rfl | rfl
  · exact this
  · exact this
/-- equal, and shown alike -/
theorem same_ok {C : CallF} {ds : List PyData} {d : PyData} {k n : Nat} {r : Rho} {st : Mem} {Q : WQ} {i j : Nat} (hi : r[i]? = some (some (.val d))) (hj : r[j]? = some (some (.val d))) (hd : d = .list ds ∨ d = .tuple ds) (h : Nc k n d) (hk : k ≤ 60) (hn : n ≤ 16777216) (q : Q (.val (.bool true)) st) :
    wE C (.and2 (.cmp .eq (.var i) (.var j)) (.cmp .eq (.blt .str1 (.cons (.var i) .nil)) (.blt .str1 (.cons (.var j) .nil)))) r st Q := by
  refine we_and (we_cmp (we_var hi (we_var hj (wl_val (wl_val (wc_eqV h hk (br_t ?_)))))))
  refine we_cmp (we_blt (wes_cons (we_var hi (wes_nil (wp_is rfl (wbl_str hd h hk hn ?_))))))
  refine we_blt (wes_cons (we_var hj (wes_nil (wp_is rfl (wbl_str hd h hk hn ?_)))))
  refine wl_val (wl_val (wc_eqS ?_))
  rw [decide_eq_true rfl]
  exact q
end Sk

/-! SkG: comprehensions, pairs of two lists, the law's own loop -/
namespace Sk
open PySem PySem.Spec PyProof.Rows L2
theorem lc_rule {f : PyData → Mem → Option (Option PyData × Mem)} {ls : List Nat} {s0 : Mem} {Q : List PyData → Mem → Prop} (I : List PyData → List PyData → Mem → Prop)
    (hs : ∀ done x xs st, I done (x :: xs) st → wp (f x st) fun p => Stay ls s0 p.2 ∧ I (match p.1 with | some d => done ++ [d] | none => done) xs p.2)
    (he : ∀ done st, I done [] st → Q done st) : ∀ (xs : List PyData) (done : List PyData) (st : Mem), I done xs st → wp (lcLoop f ls s0 xs st) fun p => Q (done ++ p.1) p.2
  | [], done, st, h => ⟨([], st), by simp only [lcLoop], by simpa using he done st h⟩
  | x :: xs, done, st, h => by
    obtain ⟨⟨o, s1⟩, e1, h1, h2⟩ := hs done x xs st h
    obtain ⟨⟨ds, s2⟩, e2, q⟩ := lc_rule I hs he xs _ s1 h2
    cases o with
    | none => exact ⟨(ds, s2), by simp only [lcLoop, e1, Option.bind_some]; rw [if_pos h1, e2]; rfl, q⟩
    | some d => exact ⟨(d :: ds, s2), by simp only [lcLoop, e1, Option.bind_some]; rw [if_pos h1, e2]; rfl, by simpa using q⟩
structure wCd (C : CallF) (c : Exs) (r : Rho) (st : Mem) (Q : Bool → Mem → Prop) : Prop where of ::
  go : wp (evC C c r st) fun p => Q p.1 p.2
section
variable {C : CallF} {r : Rho} {st : Mem} {c elt a b : Ex} {tg : Tg} {it : Itx} {cond : Exs} {own : List Nat}
theorem wcd_nil {Q : Bool → Mem → Prop} (q : Q true st) : wCd C .nil r st Q := ⟨(true, st), by simp only [evC], q⟩
theorem wcd_one {Q : Bool → Mem → Prop} (h : wE C c r st fun x s1 => ∃ k, x = .val (.bool k) ∧ Q k s1) : wCd C (.cons c .nil) r st Q := by
  obtain ⟨⟨x, s1⟩, e1, k, e, q⟩ := h
  exact ⟨(k, s1), by simp only [evC, e1, show x = .val (.bool k) from e, Option.bind_some], q⟩
/-- a comprehension, by what holds ahead of each turn -/
theorem wf_lcI {Q : List PyData → Mem → Prop} (I : List PyData → List Nat → Mem → List PyData → List PyData → Mem → Prop)
    (h : wI C it r st fun xs ls s0 => I xs ls s0 [] xs s0 ∧ (∀ done st, I xs ls s0 done [] st → Q done st) ∧ ∀ done x ys st, I xs ls s0 done (x :: ys) st →
      wp (bindT tg (.val x) (wipeR r own)) fun r1 => wCd C cond r1 st fun k s1 => if k then wE C elt r1 s1 fun w s2 => wZ s2 w fun d s3 => Stay ls s0 s3 ∧ I xs ls s0 (done ++ [d]) ys s3 else Stay ls s0 s1 ∧ I xs ls s0 done ys s1) :
    wF C (.lc elt tg it cond own) r st Q := by
  obtain ⟨⟨xs, ls, s0⟩, e1, hI, he, hs⟩ := h
  obtain ⟨p, e2, q⟩ := lc_rule (f := fun x st => (bindT tg (.val x) (wipeR r own)).bind fun r1 => (evC C cond r1 st).bind fun (k, s1) =>
        if k then (ev C elt r1 s1).bind fun (w, s2) => (frz s2 w).bind fun (d, s3) => some (some d, s3) else some (none, s1)) (ls := ls) (s0 := s0) (Q := Q) (I xs ls s0) (fun done x ys st hx => by
    obtain ⟨r1, e3, ⟨⟨k, s1⟩, e4, q⟩⟩ := hs done x ys st hx
    cases k with
    | true =>
      obtain ⟨⟨w, s2⟩, e5, ⟨⟨d, s3⟩, e6, q⟩⟩ := q
      exact ⟨(some d, s3), by simp only [e3, e4, e5, e6, Option.bind_some, if_true], q⟩
    | false => exact ⟨(none, s1), by simp only [e3, e4, Option.bind_some]; rfl, q⟩) he xs [] s0 hI
  exact ⟨p, by simp only [evF, e1, Option.bind_some]; exact e2, by simpa using q⟩
/-- a comprehension whose turns change nothing: what each turn gives -/
theorem wf_lc {Q : List PyData → Mem → Prop} (g : PyData → Option PyData)
    (h : wI C it r st fun xs ls s0 => (∀ x ∈ xs, wp (bindT tg (.val x) (wipeR r own)) fun r1 => wCd C cond r1 s0 fun k s1 => if k then wE C elt r1 s1 fun w s2 => wZ s2 w fun d s3 => s3 = s0 ∧ g x = some d else s1 = s0 ∧ g x = none) ∧ Q (xs.filterMap g) s0) :
    wF C (.lc elt tg it cond own) r st Q := by
  refine wf_lcI (fun xs ls s0 done ys s => s = s0 ∧ (∀ y ∈ ys, y ∈ xs) ∧ done ++ ys.filterMap g = xs.filterMap g) ?_
  obtain ⟨⟨xs, ls, s0⟩, e1, hx, q⟩ := h
  refine ⟨(xs, ls, s0), e1, ⟨rfl, fun _ h => h, by simp⟩, fun done s ⟨es, _, ed⟩ => ?_, fun done x ys s ⟨es, hm, ed⟩ => ?_⟩
  · subst es
    have : done = xs.filterMap g := by simpa using ed
    rw [this]
    exact q
  · subst es
    obtain ⟨r1, e3, ⟨⟨k, s1⟩, e4, q2⟩⟩ := hx x (hm x (List.mem_cons_self ..))
    refine ⟨r1, e3, ⟨(k, s1), e4, ?_⟩⟩
    cases k with
    | true =>
      obtain ⟨⟨w, s2⟩, e5, ⟨⟨d, s3⟩, e6, e7, e8⟩⟩ := q2
      obtain rfl : s3 = s := e7
      refine ⟨(w, s2), e5, ⟨(d, s3), e6, fun _ _ => rfl, rfl, fun y hy => hm y (List.mem_cons_of_mem _ hy), ?_⟩⟩
      rw [← ed, List.filterMap_cons, show g x = some d from e8, List.append_assoc]
      rfl
    | false =>
      obtain ⟨e7, e8⟩ := q2
      obtain rfl : s1 = s := e7
      refine ⟨fun _ _ => rfl, rfl, fun y hy => hm y (List.mem_cons_of_mem _ hy), ?_⟩
      rw [← ed, List.filterMap_cons, show g x = none from e8]
theorem wi_zipT {Q : List PyData → List Nat → Mem → Prop} (h : wE C a r st fun x s1 => wE C b r s1 fun y s2 => ∃ xs ys, x = .val (.tuple xs) ∧ y = .val (.tuple ys) ∧ Q (List.zipWith (fun u v => .tuple [u, v]) xs ys) [] s2) : wI C (.zip a b) r st Q := by
  obtain ⟨⟨x, s1⟩, e1, ⟨y, s2⟩, e2, xs, ys, ex, ey, q⟩ := h
  exact ⟨(_, [], s2), by simp only [evI, e1, e2, show x = .val (.tuple xs) from ex, show y = .val (.tuple ys) from ey, Option.bind_some, look], q⟩
theorem wi_zipL {Q : List PyData → List Nat → Mem → Prop} (h : wE C a r st fun x s1 => wE C b r s1 fun y s2 => ∃ xs ys, x = .val (.list xs) ∧ y = .val (.list ys) ∧ Q (List.zipWith (fun u v => .tuple [u, v]) xs ys) [] s2) : wI C (.zip a b) r st Q := by
  obtain ⟨⟨x, s1⟩, e1, ⟨y, s2⟩, e2, xs, ys, ex, ey, q⟩ := h
  exact ⟨(_, [], s2), by simp only [evI, e1, e2, show x = .val (.list xs) from ex, show y = .val (.list ys) from ey, Option.bind_some, look]; rfl, q⟩
end
/-- a law that loops over as many cells as there are, and one more -/
theorem rng_cells {j : Int} (hj : j ≤ 64) : ∀ y ∈ rngD 0 j.toNat, ∃ i : Int, y = .int i ∧ 0 ≤ i ∧ i < 1000 := by
  intro y hy
  simp only [rngD, List.mem_map, List.mem_range] at hy
  obtain ⟨k, hk, rfl⟩ := hy
  exact ⟨_, rfl, by omega, by omega⟩
theorem all_true {n : Nat} : bltD .all1 [.list (List.replicate n (.bool true))] = some (.bool true) := by
  have : ∀ n, bools (List.replicate n (.bool true)) = some (List.replicate n true) := by
    intro n
    induction n with
    | zero => rfl
    | succ n ih => rw [List.replicate_succ, bools, ih]; rfl
  simp [bltD, this]
theorem rat_over (p q : Rat) (hq : q ≠ 0) : ((p.num * (q.den : Int) : Int) : Rat) / (((p.den : Int) * q.num : Int) : Rat) = p / q := by
  rw [← Rat.divInt_eq_div, show Rat.divInt (p.num * q.den) (p.den * q.num) = Rat.divInt p.num p.den * Rat.divInt q.den q.num from (Rat.divInt_mul_divInt ..).symm, Rat.num_divInt_den, ← Rat.inv_divInt, Rat.num_divInt_den, Rat.div_def]
theorem num_ne {q : Rat} (hq : q ≠ 0) : q.num ≠ 0 := fun h => hq (Rat.num_eq_zero.mp h)
theorem sz_div {p q : Rat} {a b : Nat} (hp : Sz a p) (hq : Sz b q) (h0 : q ≠ 0) : Sz (a + b) (p / q) := by
  rw [← rat_over p q h0]
  exact sz_part (Int.mul_ne_zero (den_ne p) (num_ne h0)) (cross hp hq) (natAbs_mul_lt (by rw [den_natAbs]; exact hp.2) hq.1)
/-- data of nothing but numbers, truths, None, and tuples of such -/
def okT : Nat → PyData → Prop
  | _, .none => True
  | _, .bool _ => True
  | _, .int _ => True
  | n + 1, .tuple ds => ∀ d ∈ ds, okT n d
  | _, _ => False
theorem okT_F {q : Rat} : okT 1 (F q) := by
  intro d hd
  simp only [List.mem_cons, List.not_mem_nil, or_false] at hd
  rcases hd with rfl | rfl <;> trivial
theorem all_of {xs : List PyData} {g : PyData → Option PyData} (h : ∀ x ∈ xs, g x = some (.bool true)) : bltD .all1 [.list (xs.filterMap g)] = some (.bool true) := by
  have : xs.filterMap g = List.replicate xs.length (.bool true) := by
    induction xs with
    | nil => rfl
    | cons x xs ih => rw [List.filterMap_cons, h x (List.mem_cons_self ..), ih fun y hy => h y (List.mem_cons_of_mem _ hy)]; rfl
  rw [this]
  exact all_true
theorem wc_eqB {b : Bool} {P : Bool → Prop} (q : P true) : wP .eq (.bool b) (.bool b) P := wc_eqV nc_bool (by decide) q
theorem stay_nil {s s' : Mem} : Stay [] s s' := fun _ h => by cases h
theorem pow9 {m : Nat} {v : Int} (h0 : 0 ≤ v) (hm : m ≤ 4) (h : v < 10 ^ (9 * m)) : v.natAbs < 2 ^ 130 := by
  have : m = 0 ∨ m = 1 ∨ m = 2 ∨ m = 3 ∨ m = 4 := by omega
  rcases this with rfl | rfl | rfl | rfl | rfl <;> omega
theorem pow9b {m : Nat} {v : Int} (h0 : 0 ≤ v) (hm : m ≤ 2) (h : v < 10 ^ (9 * m)) : v.natAbs < 2 ^ 61 := by
  have : m = 0 ∨ m = 1 ∨ m = 2 := by omega
  rcases this with rfl | rfl | rfl <;> omega
end Sk

/-! SkH: lists of fractions, in order -/
namespace Sk
open PySem PySem.Spec PyProof.Rows L2
def rmin (p q : Rat) : Rat := if q < p then q else p
def rmax (p q : Rat) : Rat := if p < q then q else p
/-- which fraction data is -/
def unF : PyData → Option Rat
  | .tuple [.int a, .int b] => some ((a : Rat) / (b : Rat))
  | _ => none
theorem unF_F (q : Rat) : unF (F q) = some q := by
  show some ((q.num : Rat) / ((q.den : Int) : Rat)) = some q
  rw [← Rat.divInt_eq_div, Rat.num_divInt_den]
/-- a comprehension over fractions -/
def gF (P : Rat → Bool) (f : Rat → PyData) (d : PyData) : Option PyData := match unF d with
  | some q => if P q then some (f q) else none
  | none => none
theorem gF_F {P : Rat → Bool} {f : Rat → PyData} (q : Rat) : gF P f (F q) = if P q then some (f q) else none := by
  unfold gF
  rw [unF_F]
theorem gF_map {P : Rat → Bool} {f : Rat → PyData} : ∀ rs : List Rat, (rs.map F).filterMap (gF P f) = (rs.filter P).map f
  | [] => rfl
  | q :: rs => by
    rw [List.map_cons, List.filterMap_cons, gF_F, List.filter_cons, gF_map rs]
    cases P q <;> rfl
theorem F_of {t b : Int} (hb : 0 < b) (h : Int.gcd t b = 1) : PyData.tuple [.int t, .int b] = F ((t : Rat) / (b : Rat)) := by
  have e1 := part_num (t := t) (b := b) (by omega)
  have e2 := part_den (t := t) (b := b) (by omega)
  rw [h, Int.sign_eq_one_of_pos hb, Int.one_mul] at e1 e2
  unfold F
  rw [← e1, ← e2]
  simp
theorem gcd_one {t b : Int} (h : ∀ d : Int, d ∣ t → d ∣ b → d ∣ 1) : Int.gcd t b = 1 := by
  have := h _ (Int.gcd_dvd_left ..) (Int.gcd_dvd_right (a := t) ..)
  have h2 : (Int.gcd t b) ∣ 1 := Int.natCast_dvd_natCast.mp this
  exact Nat.dvd_one.mp h2
theorem lt_cross {p q : Rat} : decide (p.num * (q.den : Int) < q.num * (p.den : Int)) = decide (p < q) := by
  rw [decide_eq_decide, Rat.lt_iff]
theorem allF {n : Nat} : ∀ {ds : List PyData}, (∀ d ∈ ds, ∃ q, d = F q ∧ Sz n q) → ∃ rs : List Rat, ds = rs.map F ∧ ∀ q ∈ rs, Sz n q
  | [], _ => ⟨[], rfl, by simp⟩
  | d :: ds, h => by
    obtain ⟨q, rfl, hq⟩ := h d (List.mem_cons_self ..)
    obtain ⟨rs, rfl, hr⟩ := allF fun x hx => h x (List.mem_cons_of_mem _ hx)
    refine ⟨q :: rs, rfl, fun x hx => ?_⟩
    rcases List.mem_cons.mp hx with rfl | hx
    · exact hq
    · exact hr x hx
theorem mem_cut {x : PyData} {ds : List PyData} {a b : Option Int} (h : x ∈ cutD ds a b) : x ∈ ds := List.mem_of_mem_drop (List.mem_of_mem_take h)
theorem len_cut {ds : List PyData} {a b : Option Int} : (cutD ds a b).length ≤ ds.length := by
  unfold cutD
  rw [List.length_take, List.length_drop]
  omega
theorem cut_tail (ds : List PyData) : cutD ds (some 1) none = ds.tail := by
  unfold cutD HT.sIx
  cases ds with
  | nil => rfl
  | cons d ds => simp [List.tail]
/-- where a fraction goes among rising ones -/
theorem rise_split {q : Rat} : ∀ {rs : List Rat}, rs.Pairwise (· ≤ ·) → (∀ x ∈ rs.take (rs.filter (fun z => decide (z < q))).length, x ≤ q) ∧ (∀ x ∈ rs.drop (rs.filter (fun z => decide (z < q))).length, q ≤ x)
  | [], _ => by simp
  | a :: t, h => by
    obtain ⟨h1, h2⟩ := List.pairwise_cons.mp h
    by_cases ha : a < q
    · obtain ⟨g1, g2⟩ := rise_split (q := q) h2
      rw [List.filter_cons_of_pos (by simpa using ha), List.length_cons, List.take_succ_cons, List.drop_succ_cons]
      refine ⟨fun x hx => ?_, g2⟩
      rcases List.mem_cons.mp hx with rfl | hx
      · exact Rat.le_of_lt ha
      · exact g1 x hx
    · have ha' : q ≤ a := Rat.not_lt.mp ha
      have e : (a :: t).filter (fun z => decide (z < q)) = [] := by
        rw [List.filter_eq_nil_iff]
        intro x hx
        have : q ≤ x := by
          rcases List.mem_cons.mp hx with rfl | hx
          · exact ha'
          · exact Rat.le_trans ha' (h1 x hx)
        rw [decide_eq_true_eq]
        exact Rat.not_lt.mpr this
      rw [e]
      refine ⟨by simp, fun x hx => ?_⟩
      simp only [List.length_nil, List.drop_zero] at hx
      rcases List.mem_cons.mp hx with rfl | hx
      · exact ha'
      · exact Rat.le_trans ha' (h1 x hx)
theorem rise_ins {q : Rat} {rs : List Rat} {n : Nat} (h : rs.Pairwise (· ≤ ·)) (hn : n = (rs.filter (fun z => decide (z < q))).length) : (rs.take n ++ [q] ++ rs.drop n).Pairwise (· ≤ ·) ∧ ∀ x, x ∈ rs.take n ++ [q] ++ rs.drop n ↔ x = q ∨ x ∈ rs := by
  subst hn
  obtain ⟨h1, h2⟩ := rise_split (q := q) h
  constructor
  · rw [List.append_assoc, List.pairwise_append]
    refine ⟨h.sublist (List.take_sublist ..), List.pairwise_cons.mpr ⟨h2, h.sublist (List.drop_sublist ..)⟩, fun a ha b hb => ?_⟩
    rcases List.mem_cons.mp hb with rfl | hb
    · exact h1 a ha
    · exact Rat.le_trans (h1 a ha) (h2 b hb)
  · intro x
    have e := List.take_append_drop (rs.filter (fun z => decide (z < q))).length rs
    have : x ∈ rs ↔ x ∈ rs.take (rs.filter (fun z => decide (z < q))).length ∨ x ∈ rs.drop (rs.filter (fun z => decide (z < q))).length := by
      rw [← List.mem_append, e]
    rw [this, List.mem_append, List.mem_append, List.mem_singleton]
    constructor
    · rintro ((h | h) | h)
      · exact .inr (.inl h)
      · exact .inl h
      · exact .inr (.inr h)
    · rintro (h | h | h)
      · exact .inl (.inr h)
      · exact .inl (.inl h)
      · exact .inr h
theorem zip_rise : ∀ {rs : List Rat}, rs.Pairwise (· ≤ ·) → ∀ x ∈ List.zipWith (fun u v => PyData.tuple [u, v]) (rs.map F) (rs.map F).tail, ∃ a b, x = .tuple [F a, F b] ∧ a ≤ b ∧ a ∈ rs ∧ b ∈ rs
  | [], _, x, hx => by simp at hx
  | [a], _, x, hx => by simp at hx
  | a :: b :: t, h, x, hx => by
    obtain ⟨h1, h2⟩ := List.pairwise_cons.mp h
    simp only [List.map_cons, List.tail_cons, List.zipWith_cons_cons] at hx
    rcases List.mem_cons.mp hx with rfl | hx
    · exact ⟨a, b, rfl, h1 b (List.mem_cons_self ..), by simp, by simp⟩
    · obtain ⟨c, d, e1, e2, e3, e4⟩ := zip_rise h2 x (by simpa using hx)
      exact ⟨c, d, e1, e2, List.mem_cons_of_mem _ e3, List.mem_cons_of_mem _ e4⟩
theorem any_false {xs : List PyData} {g : PyData → Option PyData} (h : ∀ x ∈ xs, g x = some (.bool false)) : bltD .any1 [.list (xs.filterMap g)] = some (.bool false) := by
  have : xs.filterMap g = List.replicate xs.length (.bool false) := by
    induction xs with
    | nil => rfl
    | cons x xs ih => rw [List.filterMap_cons, h x (List.mem_cons_self ..), ih fun y hy => h y (List.mem_cons_of_mem _ hy)]; rfl
  rw [this]
  have e : ∀ n, bools (List.replicate n (.bool false)) = some (List.replicate n false) := by
    intro n
    induction n with
    | zero => rfl
    | succ n ih => rw [List.replicate_succ, bools, ih]; rfl
  simp [bltD, e]
theorem idx_last {ds : List PyData} {d : PyData} (h : ds.getLast? = some d) : idxD (.list ds) (.int (-1)) = some d := by
  have hn : ds ≠ [] := by intro e; subst e; cases h
  have hp : 0 < ds.length := List.length_pos_iff.mpr hn
  show atI ds (-1) = _
  unfold atI ixN
  rw [List.getLast?_eq_getElem?] at h
  have : ((ds.length : Int) + -1).toNat = ds.length - 1 := by omega
  simp only [show ¬ (0 : Int) ≤ -1 by decide, if_false, Int.add_comm] at *
  simp
  rw [if_pos (by omega), this]
  exact h
theorem we_mt {C : CallF} {r : Rho} {st : Mem} {Q : WQ} {o : Mt} {a : Ex} {es : Exs} (h : wE C a r st fun x s1 => wEs C es r s1 fun ws s2 => ∃ n ds, x = .loc n ∧ s2[n]? = some (true, ds) ∧ wp (mtD o ds ws s2) fun p => (∃ c, p.2[n]? = some (true, c)) ∧ Q (.val (mtV o ds)) (p.2.set n (true, p.1))) : wE C (.mt o a es) r st Q := by
  obtain ⟨⟨x, s1⟩, e1, ⟨⟨ws, s2⟩, e2, n, ds, ex, hn, ⟨ds', s3⟩, e3, ⟨c, hc⟩, q⟩⟩ := h
  exact ⟨(.val (mtV o ds), s3.set n (true, ds')), by simp only [ev, e1, e2, show x = .loc n from ex, hn, e3, Option.bind_some]; rw [hc], q⟩
theorem mt_ins {ds : List PyData} {i : Int} {d : PyData} {st : Mem} (h0 : 0 ≤ i) (h1 : i < 2 ^ 63) (hl : ds.length < lineN) : mtD .ins ds [.val (.int i), .val d] st = some (ds.take i.toNat ++ [d] ++ ds.drop i.toNat, st) := by
  simp only [mtD, frz, Option.bind_some]
  rw [if_pos ⟨h0, h1, hl⟩]
theorem mt_app {ds : List PyData} {d : PyData} {st : Mem} (hl : ds.length < lineN) : mtD .app ds [.val d] st = some (ds ++ [d], st) := by
  simp only [mtD, frz, Option.bind_some]
  rw [if_pos hl]
theorem idx_zero {d : PyData} {ds : List PyData} : idxD (.list (d :: ds)) (.int 0) = some d := by
  show atI (d :: ds) 0 = _
  simp [atI, ixN]
/-- a truth told of each number of a range -/
def gI (P : Int → Bool) : PyData → Option PyData
  | .int k => some (.bool (P k))
  | _ => none
theorem bools_map {α : Type} (P : α → Bool) : ∀ xs : List α, bools (xs.map fun x => .bool (P x)) = some (xs.map P)
  | [] => rfl
  | x :: xs => by rw [List.map_cons, bools, bools_map P xs]; rfl
theorem gI_rng {P : Int → Bool} {lo : Int} {n : Nat} : (rngD lo n).filterMap (gI P) = (List.range n).map fun k => .bool (P (lo + (k : Nat))) := by
  unfold rngD
  rw [List.filterMap_map, ← List.filterMap_eq_map]
  rfl
theorem any_gI {P : Int → Bool} {lo : Int} {n : Nat} : bltD .any1 [.list ((rngD lo n).filterMap (gI P))] = some (.bool ((List.range n).any fun k => P (lo + (k : Nat)))) := by
  rw [gI_rng]
  simp [bltD, bools_map]
theorem lowest_any {t b : Int} (hb : 1 ≤ b) : ((List.range (b + 1 - 2).toNat).any fun k => decide (t % (2 + (k : Nat)) = 0) && decide (b % (2 + (k : Nat)) = 0)) = !decide (Int.gcd t b = 1) := by
  by_cases h : Int.gcd t b = 1
  · rw [decide_eq_true h, Bool.not_true, List.any_eq_false]
    intro k hk
    simp only [Bool.and_eq_true, decide_eq_true_eq, not_and]
    intro h1 h2
    have d1 := Int.dvd_of_emod_eq_zero h1
    have d2 := Int.dvd_of_emod_eq_zero h2
    have := Int.dvd_coe_gcd d1 d2
    rw [h] at this
    have := Int.le_of_dvd (by decide) this
    omega
  · rw [decide_eq_false h, Bool.not_false, List.any_eq_true]
    have g0 := gcd_pos (a := t) (b := b) (by omega)
    have g1 : Int.gcd t b ≤ b.natAbs := Nat.le_of_dvd (by omega) (Int.gcd_dvd_natAbs_right t b)
    refine ⟨Int.gcd t b - 2, List.mem_range.mpr (by omega), ?_⟩
    have e : (2 : Int) + ((Int.gcd t b - 2 : Nat) : Int) = (Int.gcd t b : Nat) := by omega
    rw [e]
    simp only [Bool.and_eq_true, decide_eq_true_eq]
    exact ⟨Int.emod_eq_zero_of_dvd (Int.gcd_dvd_left ..), Int.emod_eq_zero_of_dvd (Int.gcd_dvd_right ..)⟩
end Sk

/-! SkI: plans: corners with moments; a list that grows beside the tape -/
namespace Sk
open PySem PySem.Spec PyProof.Rows L2
structure Cn where
  m : Rat
  x : Rat
  y : Rat
  z : Rat
def C (c : Cn) : PyData := .tuple [F c.m, F c.x, F c.y, F c.z]
def CL (c : Cn) : PyData := .list [F c.m, F c.x, F c.y, F c.z]
def Cz (n : Nat) (c : Cn) : Prop := Sz n c.m ∧ Sz n c.x ∧ Sz n c.y ∧ Sz n c.z
theorem Cz.mono {a b : Nat} {c : Cn} (h : Cz a c) (l : a ≤ b) : Cz b c := ⟨h.1.mono l, h.2.1.mono l, h.2.2.1.mono l, h.2.2.2.mono l⟩
theorem Tp.lt {b st : Mem} {n : Nat} (T : Tp b n st) : n < st.length := by
  obtain ⟨d, x, hc, _⟩ := T.cell
  exact (List.getElem?_eq_some_iff.mp hc).1
theorem Tp.grow {b st : Mem} {n : Nat} (T : Tp b n st) (c : Sk.Cell) : Tp (st ++ [c]) n (st ++ [c]) := by
  obtain ⟨d, x, hc, h⟩ := T.cell
  exact ⟨rfl, fun _ _ => rfl, d, x, by rw [List.getElem?_append_left T.lt]; exact hc, h⟩
theorem Tp.split {u s : Mem} {n : Nat} {c : Sk.Cell} (hn : n < u.length) (T : Tp (u ++ [c]) n s) : ∃ u', s = u' ++ [c] ∧ Tp u n u' := by
  have hl : s.length = u.length + 1 := by rw [T.len]; simp
  have hlast : s[u.length]? = some c := by rw [T.oth _ (by omega)]; simp
  refine ⟨s.take u.length, ?_, by rw [List.length_take]; omega, fun m hm => ?_, ?_⟩
  · have h2 : s = s.take (u.length + 1) := (List.take_of_length_le (by omega)).symm
    rw [List.take_add_one, hlast] at h2
    exact h2
  · by_cases hm2 : m < u.length
    · rw [List.getElem?_take_of_lt hm2, T.oth m hm, List.getElem?_append_left hm2]
    · rw [List.getElem?_eq_none (by rw [List.length_take]; omega), List.getElem?_eq_none (by omega)]
  · obtain ⟨d, x, hc, h⟩ := T.cell
    exact ⟨d, x, by rw [List.getElem?_take_of_lt hn]; exact hc, h⟩
theorem looks_one {st : Mem} {w : W} {d : PyData} (h : look st w = some d) : looks st [w] = some [d] := by
  simp [looks, h]
theorem look_end {u : Mem} {l : Bool} {ds : List PyData} {k : Nat} (h : u.length = k) : look (u ++ [(l, ds)]) (.loc k) = some (.list ds) := by
  subst h
  simp [look]
theorem at_end {u : Mem} {c : Sk.Cell} {k : Nat} (h : u.length = k) : (u ++ [c])[k]? = some c := by
  subst h
  simp
theorem set_end {u : Mem} {c c' : Sk.Cell} {k : Nat} (h : u.length = k) : (u ++ [c]).set k c' = u ++ [c'] := by
  subst h
  simp
theorem take_end {u : Mem} {c : Sk.Cell} {k : Nat} (h : u.length = k) : (u ++ [c]).take k = u := by
  subst h
  simp
theorem sz_small {v : Int} {n : Nat} (hn : 0 < n) (h : v.natAbs < 2 ^ n) : Sz n (v : Rat) := sz_int hn h
def mid (p q : Rat) : Rat := (p + q) / 2
theorem rat_mid (p q : Rat) : ((p.num * (q.den : Int) + q.num * (p.den : Int) : Int) : Rat) / ((2 * (p.den : Int) * (q.den : Int) : Int) : Rat) = mid p q := by
  unfold mid
  rw [← rat_add, Int.mul_assoc, Rat.intCast_mul 2, Rat.div_def, Rat.div_def, Rat.div_def, Rat.inv_mul_rev]
  exact (Rat.mul_assoc ..).symm
theorem mid_ok {p q : Rat} {n : Nat} (hp : Sz n p) (hq : Sz n q) : 2 * (p.den : Int) * (q.den : Int) ≠ 0 ∧ (p.num * (q.den : Int) + q.num * (p.den : Int)).natAbs < 2 ^ (2 * n + 2) ∧ (2 * (p.den : Int)).natAbs < 2 ^ (n + 2) ∧ (2 * (p.den : Int) * (q.den : Int)).natAbs < 2 ^ (2 * n + 2) := by
  have h1 : (2 * (p.den : Int)).natAbs < 2 ^ (n + 2) := by
    have := hp.2
    rw [Int.natAbs_mul, den_natAbs, Nat.pow_add]
    show 2 * p.den < 2 ^ n * 4
    omega
  refine ⟨by rw [Int.mul_assoc]; exact Int.mul_ne_zero (by decide) (dens_ne p q), ?_, h1, ?_⟩
  · have := natAbs_add_lt (cross hp hq) (cross hq hp)
    exact Nat.lt_of_lt_of_le this (Nat.pow_le_pow_right (by decide) (by omega))
  · have := natAbs_mul_lt h1 (show ((q.den : Nat) : Int).natAbs < 2 ^ n by rw [den_natAbs]; exact hq.2)
    exact Nat.lt_of_lt_of_le this (Nat.pow_le_pow_right (by decide) (by omega))
theorem sz_mid {p q : Rat} {n : Nat} (hp : Sz n p) (hq : Sz n q) : Sz (2 * n + 2) (mid p q) := by
  rw [← rat_mid]
  exact sz_part (mid_ok hp hq).1 (mid_ok hp hq).2.1 (mid_ok hp hq).2.2.2
theorem idx_at {xs ys : List PyData} {d : PyData} : idxD (.tuple (xs ++ d :: ys)) (.int xs.length) = some d := by
  show atI (xs ++ d :: ys) (xs.length : Int) = _
  have h : ixN (xs ++ d :: ys).length (xs.length : Int) = some xs.length := by
    unfold ixN
    rw [if_pos (by omega), if_pos (by simp only [List.length_append, List.length_cons]; omega), Int.toNat_natCast]
  unfold atI
  rw [h]
  simp
theorem cut_to {xs ys : List PyData} {k : Int} (h : k = xs.length) : cutD (xs ++ ys) none (some k) = xs := by
  subst h
  unfold cutD
  rw [HT.sIx_nat, HT.sIx_none]
  simp
theorem cut_from {xs ys : List PyData} {k : Int} (h : k = xs.length) : cutD (xs ++ ys) (some k) none = ys := by
  subst h
  unfold cutD
  rw [HT.sIx_nat, HT.sIx_none]
  simp
theorem split_at {α : Type} {cs : List α} {k : Nat} (h : k + 1 < cs.length) : ∃ as a c bs, cs = as ++ a :: c :: bs ∧ as.length = k := by
  refine ⟨cs.take k, cs[k], cs[k+1], cs.drop (k + 2), ?_, by rw [List.length_take]; omega⟩
  rw [← List.drop_eq_getElem_cons (by omega), ← List.drop_eq_getElem_cons (by omega), List.take_append_drop]
theorem Tp.growL {b st : Mem} {n : Nat} (T : Tp b n st) (v : Mem) : Tp (st ++ v) n (st ++ v) := by
  obtain ⟨d, x, hc, h⟩ := T.cell
  exact ⟨rfl, fun _ _ => rfl, d, x, by rw [List.getElem?_append_left T.lt]; exact hc, h⟩
theorem Tp.splitL {u s : Mem} {n : Nat} {v : Mem} (hn : n < u.length) (T : Tp (u ++ v) n s) : ∃ u', s = u' ++ v ∧ Tp u n u' := by
  have hl : s.length = u.length + v.length := by rw [T.len]; simp
  refine ⟨s.take u.length, ?_, by rw [List.length_take]; omega, fun m hm => ?_, ?_⟩
  · have hd : s.drop u.length = v := by
      apply List.ext_getElem?
      intro i
      rw [List.getElem?_drop, T.oth _ (by omega), List.getElem?_append_right (by omega)]
      congr 1
      omega
    exact ((List.take_append_drop u.length s).symm.trans (by rw [hd]))
  · by_cases hm2 : m < u.length
    · rw [List.getElem?_take_of_lt hm2, T.oth m hm, List.getElem?_append_left hm2]
    · rw [List.getElem?_eq_none (by rw [List.length_take]; omega), List.getElem?_eq_none (by omega)]
  · obtain ⟨d, x, hc, h⟩ := T.cell
    exact ⟨d, x, by rw [List.getElem?_take_of_lt hn]; exact hc, h⟩
theorem look_mid {u v : Mem} {l : Bool} {ds : List PyData} {k : Nat} (h : u.length = k) : look (u ++ (l, ds) :: v) (.loc k) = some (.list ds) := by
  subst h
  simp [look]
theorem at_mid {u v : Mem} {c : Sk.Cell} {k : Nat} (h : u.length = k) : (u ++ c :: v)[k]? = some c := by
  subst h
  simp
theorem set_mid {u v : Mem} {c c' : Sk.Cell} {k : Nat} (h : u.length = k) : (u ++ c :: v).set k c' = u ++ c' :: v := by
  subst h
  simp
theorem take_mid {u v : Mem} {k : Nat} (h : u.length = k) : (u ++ v).take k = u := by
  subst h
  simp
theorem rat_div_lt {a b d : Int} (h : a < b) (hd : 0 < d) : (a : Rat) / (d : Rat) < (b : Rat) / (d : Rat) := by
  have hd' : (0 : Rat) < (d : Rat) := Rat.intCast_pos.mpr hd
  rw [Rat.div_lt_iff hd', Rat.div_mul_cancel (Rat.ne_of_gt hd')]
  exact Rat.intCast_lt_intCast.mpr h
/-- a fraction over a given bottom, so great at most -/
def Ov (D M : Nat) (q : Rat) : Prop := ∃ i : Int, q = (i : Rat) / ((D : Int) : Rat) ∧ i.natAbs ≤ M * D
theorem Ov.mono {D M N : Nat} {q : Rat} (h : Ov D M q) (l : M ≤ N) : Ov D N q := by
  obtain ⟨i, e, hi⟩ := h
  exact ⟨i, e, Nat.le_trans hi (Nat.mul_le_mul_right D l)⟩
theorem Ov.sz {D M n : Nat} {q : Rat} (h : Ov D M q) (hD : 0 < D) (h1 : M * D < 2 ^ n) (h2 : D < 2 ^ n) : Sz n q := by
  obtain ⟨i, rfl, hi⟩ := h
  exact sz_part (by omega) (by omega) (by simpa using h2)
theorem gr_int {D M : Nat} {i : Int} (hD : 0 < D) (h : i.natAbs ≤ M) : Ov D M (i : Rat) := by
  refine ⟨i * D, ?_, ?_⟩
  · have hd : ((D : Int) : Rat) ≠ 0 := fun e => by have := Rat.intCast_inj.mp (show ((D : Int) : Rat) = ((0 : Int) : Rat) from e); omega
    rw [Rat.intCast_mul, Rat.mul_div_cancel hd]
  · rw [Int.natAbs_mul, Int.natAbs_natCast]
    exact Nat.mul_le_mul_right D h
theorem div_scale {t b d : Int} (hb : b ≠ 0) (hd : d ≠ 0) : (t : Rat) / (b : Rat) = ((t * d : Int) : Rat) / ((b * d : Int) : Rat) := by
  rw [← Rat.divInt_eq_div, ← Rat.divInt_eq_div, Rat.divInt_eq_divInt_iff hb (Int.mul_ne_zero hb hd), ← Int.mul_assoc, Int.mul_right_comm]
theorem gr_part {D M : Nat} {t b d : Int} (hb : 0 < b) (e : b * d = D) (hD : 0 < D) (h : (t * d).natAbs ≤ M * D) : Ov D M ((t : Rat) / (b : Rat)) := by
  have hd : d ≠ 0 := by rintro rfl; simp at e; omega
  exact ⟨t * d, by rw [← e]; exact div_scale (by omega) hd, h⟩
theorem Ov.twice {D M : Nat} {q : Rat} (h : Ov D M q) (hD : 0 < D) : Ov (2 * D) M q := by
  obtain ⟨i, rfl, hi⟩ := h
  refine ⟨i * 2, ?_, ?_⟩
  · rw [div_scale (d := 2) (by omega) (by decide), show ((2 * D : Nat) : Int) = (D : Int) * 2 by omega]
  · rw [Int.natAbs_mul, Nat.mul_left_comm]
    show i.natAbs * 2 ≤ 2 * (M * D)
    omega
theorem div_add_same {i j d : Int} : (i : Rat) / (d : Rat) + (j : Rat) / (d : Rat) = ((i + j : Int) : Rat) / (d : Rat) := by
  rw [Rat.div_def, Rat.div_def, Rat.div_def, ← Rat.add_mul, Rat.intCast_add]
theorem gr_add {D M N : Nat} {p q : Rat} (hp : Ov D M p) (hq : Ov D N q) : Ov D (M + N) (p + q) := by
  obtain ⟨i, rfl, hi⟩ := hp
  obtain ⟨j, rfl, hj⟩ := hq
  refine ⟨i + j, div_add_same, ?_⟩
  have := Int.natAbs_add_le i j
  rw [Nat.add_mul]
  omega
theorem gr_mid {D M : Nat} {p q : Rat} (hp : Ov D M p) (hq : Ov D M q) (hD : 0 < D) : Ov (2 * D) M (mid p q) := by
  obtain ⟨i, rfl, hi⟩ := hp
  obtain ⟨j, rfl, hj⟩ := hq
  refine ⟨i + j, ?_, ?_⟩
  · unfold mid
    rw [div_add_same, show ((2 * D : Nat) : Int) = (D : Int) * 2 by omega, Rat.intCast_mul, Rat.div_def, Rat.div_def, Rat.div_def, Rat.inv_mul_rev, Rat.mul_assoc]
    congr 1
    exact Rat.mul_comm ..
  · have := Int.natAbs_add_le i j
    rw [Nat.mul_left_comm]
    omega
def Gc (D M : Nat) (c : Cn) : Prop := Ov D M c.m ∧ Ov D M c.x ∧ Ov D M c.y ∧ Ov D M c.z
theorem Gc.cz {D M n : Nat} {c : Cn} (h : Gc D M c) (hD : 0 < D) (h1 : M * D < 2 ^ n) (h2 : D < 2 ^ n) : Cz n c := ⟨h.1.sz hD h1 h2, h.2.1.sz hD h1 h2, h.2.2.1.sz hD h1 h2, h.2.2.2.sz hD h1 h2⟩
theorem Gc.twice {D M : Nat} {c : Cn} (h : Gc D M c) (hD : 0 < D) : Gc (2 * D) M c := ⟨h.1.twice hD, h.2.1.twice hD, h.2.2.1.twice hD, h.2.2.2.twice hD⟩
end Sk

/-! SkJ: stepping with less by hand: unrolled loops, loops over typed lists, own lists at the store's end, sizes and texts by search -/
namespace Sk
open PySem PySem.Spec PyProof.Rows L2
section
variable {C : CallF} {r : Rho} {st : Mem} {Q : WR} {tg : Tg} {it : Itx} {bd : Sxs} {ls : List Nat} {s0 : Mem} {xs : List PyData} {x : PyData}
/-- a for over what is left -/
structure wFor (C : CallF) (tg : Tg) (bd : Sxs) (ls : List Nat) (s0 : Mem) (xs : List PyData) (r : Rho) (st : Mem) (Q : WR) : Prop where of ::
  go : wp (forLoop (fun x r st => (bindT tg (.val x) r).bind fun r1 => exs C bd r1 st) ls s0 xs r st) fun p => Q p.1 p.2.1 p.2.2
structure turnU (C : CallF) (tg : Tg) (bd : Sxs) (ls : List Nat) (s0 : Mem) (xs : List PyData) (Q : WR) (o : Out) (r : Rho) (st : Mem) : Prop where of ::
  go : match o with
    | .nx => Stay ls s0 st ∧ wFor C tg bd ls s0 xs r st Q
    | .ct => Stay ls s0 st ∧ wFor C tg bd ls s0 xs r st Q
    | .brk => Q .nx r st
    | .ret w => Q (.ret w) r st
theorem ws_forU (h : wI C it r st fun xs ls s0 => wFor C tg bd ls s0 xs r s0 Q) : wS C (.for1 tg it bd) r st Q := by
  obtain ⟨⟨xs, ls, s0⟩, e1, p, e2, q⟩ := h
  exact ⟨p, by simp only [ex, e1, Option.bind_some]; exact e2, q⟩
theorem wfor_nil (q : Q .nx r st) : wFor C tg bd ls s0 [] r st Q := ⟨(.nx, r, st), by simp only [forLoop], q⟩
theorem wfor_cons (h : wp (bindT tg (.val x) r) fun r1 => wSs C bd r1 st (turnU C tg bd ls s0 xs Q)) : wFor C tg bd ls s0 (x :: xs) r st Q := by
  obtain ⟨r1, e1, ⟨o, r2, s2⟩, e2, q⟩ := h
  have q := q.go
  cases o with
  | nx =>
    obtain ⟨hs, p, e3, q3⟩ := q
    exact ⟨p, by simp only [forLoop, e1, e2, Option.bind_some]; rw [if_pos hs]; exact e3, q3⟩
  | ct =>
    obtain ⟨hs, p, e3, q3⟩ := q
    exact ⟨p, by simp only [forLoop, e1, e2, Option.bind_some]; rw [if_pos hs]; exact e3, q3⟩
  | brk => exact ⟨(.nx, r2, s2), by simp only [forLoop, e1, e2, Option.bind_some], q⟩
  | ret w => exact ⟨(.ret w, r2, s2), by simp only [forLoop, e1, e2, Option.bind_some], q⟩
theorem tu_nx (h : wFor C tg bd [] s0 xs r st Q) : turnU C tg bd [] s0 xs Q .nx r st := ⟨stay_nil, h⟩
theorem tu_ct (h : wFor C tg bd [] s0 xs r st Q) : turnU C tg bd [] s0 xs Q .ct r st := ⟨stay_nil, h⟩
theorem tu_brk (h : Q .nx r st) : turnU C tg bd ls s0 xs Q .brk r st := ⟨h⟩
theorem tu_ret {w : W} (h : Q (.ret w) r st) : turnU C tg bd ls s0 xs Q (.ret w) r st := ⟨h⟩
/-- how a turn of a for over values ends -/
structure turnM (I : Rho → Mem → Prop) (Q : WR) (o : Out) (r : Rho) (st : Mem) : Prop where of ::
  go : match o with
    | .nx => I r st
    | .ct => I r st
    | .brk => Q .nx r st
    | .ret w => Q (.ret w) r st
theorem tm_nx {I : Rho → Mem → Prop} (h : I r st) : turnM I Q .nx r st := ⟨h⟩
theorem tm_ct {I : Rho → Mem → Prop} (h : I r st) : turnM I Q .ct r st := ⟨h⟩
theorem tm_brk {I : Rho → Mem → Prop} (h : Q .nx r st) : turnM I Q .brk r st := ⟨h⟩
theorem tm_ret {I : Rho → Mem → Prop} {w : W} (h : Q (.ret w) r st) : turnM I Q (.ret w) r st := ⟨h⟩
/-- a for over a typed list of values -/
theorem ws_forM {α : Type} (f : α → PyData) (as : List α) (J : List α → List α → Rho → Mem → Prop)
    (h : wI C it r st fun xs ls s0 => xs = as.map f ∧ ls = [] ∧ J [] as r s0 ∧ (∀ r st, J as [] r st → Q .nx r st) ∧ ∀ done a todo r st, as = done ++ a :: todo → J done (a :: todo) r st →
      wp (bindT tg (.val (f a)) r) fun r1 => wSs C bd r1 st (turnM (J (done ++ [a]) todo) Q)) : wS C (.for1 tg it bd) r st Q := by
  refine ws_for (fun _ ls _ ys r s => ls = [] ∧ ∃ done todo, as = done ++ todo ∧ ys = todo.map f ∧ J done todo r s) ?_
  obtain ⟨⟨xs, ls, s0⟩, e1, ex, el, hI, he, hs⟩ := h
  obtain rfl : xs = as.map f := ex
  obtain rfl : ls = [] := el
  refine ⟨(_, [], s0), e1, ⟨rfl, [], as, rfl, rfl, hI⟩, ?_, ?_⟩
  · rintro r s ⟨_, done, todo, e, hy, hJ⟩
    obtain rfl : todo = [] := by cases todo with | nil => rfl | cons _ _ => cases hy
    rw [List.append_nil] at e
    subst e
    exact he r s hJ
  · rintro x ys r s ⟨_, done, todo, e, hy, hJ⟩
    cases todo with
    | nil => cases hy
    | cons a todo =>
      simp only [List.map_cons, List.cons.injEq] at hy
      obtain ⟨rfl, rfl⟩ := hy
      obtain ⟨r1, e3, p, e4, q⟩ := hs done a todo r s e hJ
      refine ⟨r1, e3, p, e4, ?_⟩
      obtain ⟨o, r2, s2⟩ := p
      have q := q.go
      cases o with
      | nx => exact ⟨stay_nil, rfl, done ++ [a], todo, by rw [e, List.append_assoc]; rfl, rfl, q⟩
      | ct => exact ⟨stay_nil, rfl, done ++ [a], todo, by rw [e, List.append_assoc]; rfl, rfl, q⟩
      | brk => exact q
      | ret w => exact q
end
section
variable {C : CallF} {r : Rho} {st : Mem} {elt c : Ex} {tg : Tg} {it : Itx} {own : List Nat} {Q : List PyData → Mem → Prop}
/-- a comprehension without a condition over a typed list, whose turns change nothing -/
theorem wf_lcM {α : Type} (f g : α → PyData) (as : List α)
    (h : wI C it r st fun xs ls s0 => xs = as.map f ∧ (∀ a ∈ as, wp (bindT tg (.val (f a)) (wipeR r own)) fun r1 => wE C elt r1 s0 fun w s2 => wZ s2 w fun d s3 => s3 = s0 ∧ d = g a) ∧ Q (as.map g) s0) : wF C (.lc elt tg it .nil own) r st Q := by
  refine wf_lcI (fun xs ls s0 done ys s => s = s0 ∧ ∃ ps ts, as = ps ++ ts ∧ done = ps.map g ∧ ys = ts.map f) ?_
  obtain ⟨⟨xs, ls, s0⟩, e1, ex, hx, q⟩ := h
  obtain rfl : xs = as.map f := ex
  refine ⟨(_, ls, s0), e1, ⟨rfl, [], as, rfl, rfl, rfl⟩, ?_, ?_⟩
  · rintro done s ⟨es, ps, ts, e, hd, hy⟩
    obtain rfl : ts = [] := by cases ts with | nil => rfl | cons _ _ => cases hy
    rw [List.append_nil] at e
    subst e hd
    obtain rfl : s = s0 := es
    exact q
  · rintro done x ys s ⟨es, ps, ts, e, hd, hy⟩
    cases ts with
    | nil => cases hy
    | cons a ts =>
      simp only [List.map_cons, List.cons.injEq] at hy
      obtain ⟨rfl, rfl⟩ := hy
      obtain rfl : s = s0 := es
      obtain ⟨r1, e3, ⟨w, s2⟩, e5, ⟨⟨d, s3⟩, e6, e7, e8⟩⟩ := hx a (by rw [e]; simp)
      refine ⟨r1, e3, ⟨(true, s), by simp only [evC], ?_⟩⟩
      obtain rfl : s3 = s := e7
      obtain rfl : d = g a := e8
      exact ⟨(w, s2), e5, ⟨(_, s3), e6, fun _ _ => rfl, rfl, ps ++ [a], ts, by rw [e, List.append_assoc]; rfl, by rw [hd, List.map_append]; rfl, rfl⟩⟩
/-- a comprehension with a condition over a typed list, whose turns change nothing -/
theorem wf_lcP {α : Type} (f g : α → PyData) (p : α → Bool) (as : List α)
    (h : wI C it r st fun xs ls s0 => xs = as.map f ∧ (∀ a ∈ as, wp (bindT tg (.val (f a)) (wipeR r own)) fun r1 => wE C c r1 s0 fun x s1 => x = .val (.bool (p a)) ∧ s1 = s0 ∧ (p a = true → wE C elt r1 s0 fun w s2 => wZ s2 w fun d s3 => s3 = s0 ∧ d = g a)) ∧ Q ((as.filter p).map g) s0) : wF C (.lc elt tg it (.cons c .nil) own) r st Q := by
  refine wf_lcI (fun xs ls s0 done ys s => s = s0 ∧ ∃ ps ts, as = ps ++ ts ∧ done = (ps.filter p).map g ∧ ys = ts.map f) ?_
  obtain ⟨⟨xs, ls, s0⟩, e1, ex, hx, q⟩ := h
  obtain rfl : xs = as.map f := ex
  refine ⟨(_, ls, s0), e1, ⟨rfl, [], as, rfl, rfl, rfl⟩, ?_, ?_⟩
  · rintro done s ⟨es, ps, ts, e, hd, hy⟩
    obtain rfl : ts = [] := by cases ts with | nil => rfl | cons _ _ => cases hy
    rw [List.append_nil] at e
    subst e hd
    obtain rfl : s = s0 := es
    exact q
  · rintro done x ys s ⟨es, ps, ts, e, hd, hy⟩
    cases ts with
    | nil => cases hy
    | cons a ts =>
      simp only [List.map_cons, List.cons.injEq] at hy
      obtain ⟨rfl, rfl⟩ := hy
      obtain rfl : s = s0 := es
      obtain ⟨r1, e3, ⟨x, s1⟩, e4, ex, e5, h6⟩ := hx a (by rw [e]; simp)
      obtain rfl : x = .val (.bool (p a)) := ex
      obtain rfl : s1 = s := e5
      refine ⟨r1, e3, wcd_one ⟨(_, s1), e4, p a, rfl, ?_⟩⟩
      have e2 : as = ps ++ [a] ++ ts := by rw [e, List.append_assoc]; rfl
      cases hp : p a with
      | true =>
        obtain ⟨⟨w, s2⟩, e6, ⟨⟨d, s3⟩, e7, e8, e9⟩⟩ := h6 hp
        obtain rfl : s3 = s1 := e8
        obtain rfl : d = g a := e9
        exact ⟨(w, s2), e6, ⟨(_, s3), e7, fun _ _ => rfl, rfl, ps ++ [a], ts, e2, by simp [hd, hp], rfl⟩⟩
      | false => exact ⟨fun _ _ => rfl, rfl, ps ++ [a], ts, e2, by simp [hd, hp], rfl⟩
end
section
variable {C : CallF} {r : Rho} {st : Mem} {elt c : Ex} {tg : Tg} {it : Itx} {own : List Nat} {Q : List PyData → Mem → Prop}
/-- a comprehension with a condition, by what holds ahead of each turn -/
theorem wf_lcA {α : Type} (f : α → PyData) (as : List α) (J : List α → List α → List PyData → Mem → Prop)
    (h : wI C it r st fun xs ls s0 => xs = as.map f ∧ ls = [] ∧ J [] as [] s0 ∧ (∀ acc s, J as [] acc s → Q acc s) ∧ ∀ done a todo acc s, as = done ++ a :: todo → J done (a :: todo) acc s →
      wp (bindT tg (.val (f a)) (wipeR r own)) fun r1 => wE C c r1 s fun x s1 => Br x (wE C elt r1 s1 fun w s2 => wZ s2 w fun d s3 => J (done ++ [a]) todo (acc ++ [d]) s3) (J (done ++ [a]) todo acc s1)) : wF C (.lc elt tg it (.cons c .nil) own) r st Q := by
  refine wf_lcI (fun _ ls _ acc ys s => ls = [] ∧ ∃ done todo, as = done ++ todo ∧ ys = todo.map f ∧ J done todo acc s) ?_
  obtain ⟨⟨xs, ls, s0⟩, e1, ex, el, hI, he, hs⟩ := h
  obtain rfl : xs = as.map f := ex
  obtain rfl : ls = [] := el
  refine ⟨(_, [], s0), e1, ⟨rfl, [], as, rfl, rfl, hI⟩, ?_, ?_⟩
  · rintro acc s ⟨_, done, todo, e, hy, hJ⟩
    obtain rfl : todo = [] := by cases todo with | nil => rfl | cons _ _ => cases hy
    rw [List.append_nil] at e
    subst e
    exact he acc s hJ
  · rintro acc x ys s ⟨_, done, todo, e, hy, hJ⟩
    cases todo with
    | nil => cases hy
    | cons a todo =>
      simp only [List.map_cons, List.cons.injEq] at hy
      obtain ⟨rfl, rfl⟩ := hy
      obtain ⟨r1, e3, ⟨x, s1⟩, e4, q⟩ := hs done a todo acc s e hJ
      have e2 : as = (done ++ [a]) ++ todo := by rw [e, List.append_assoc]; rfl
      match x, q with
      | .val (.bool true), q =>
        obtain ⟨⟨w, s2⟩, e5, ⟨⟨d, s3⟩, e6, q2⟩⟩ := q.1 rfl
        exact ⟨r1, e3, wcd_one ⟨(_, s1), e4, true, rfl, ⟨(w, s2), e5, ⟨(d, s3), e6, stay_nil, rfl, done ++ [a], todo, e2, rfl, q2⟩⟩⟩⟩
      | .val (.bool false), q => exact ⟨r1, e3, wcd_one ⟨(_, s1), e4, false, rfl, stay_nil, rfl, done ++ [a], todo, e2, rfl, q.2 rfl⟩⟩
/-- a comprehension without a condition, by what holds ahead of each turn -/
theorem wf_lcB {α : Type} (f : α → PyData) (as : List α) (J : List α → List α → List PyData → Mem → Prop)
    (h : wI C it r st fun xs ls s0 => xs = as.map f ∧ ls = [] ∧ J [] as [] s0 ∧ (∀ acc s, J as [] acc s → Q acc s) ∧ ∀ done a todo acc s, as = done ++ a :: todo → J done (a :: todo) acc s →
      wp (bindT tg (.val (f a)) (wipeR r own)) fun r1 => wE C elt r1 s fun w s2 => wZ s2 w fun d s3 => J (done ++ [a]) todo (acc ++ [d]) s3) : wF C (.lc elt tg it .nil own) r st Q := by
  refine wf_lcI (fun _ ls _ acc ys s => ls = [] ∧ ∃ done todo, as = done ++ todo ∧ ys = todo.map f ∧ J done todo acc s) ?_
  obtain ⟨⟨xs, ls, s0⟩, e1, ex, el, hI, he, hs⟩ := h
  obtain rfl : xs = as.map f := ex
  obtain rfl : ls = [] := el
  refine ⟨(_, [], s0), e1, ⟨rfl, [], as, rfl, rfl, hI⟩, ?_, ?_⟩
  · rintro acc s ⟨_, done, todo, e, hy, hJ⟩
    obtain rfl : todo = [] := by cases todo with | nil => rfl | cons _ _ => cases hy
    rw [List.append_nil] at e
    subst e
    exact he acc s hJ
  · rintro acc x ys s ⟨_, done, todo, e, hy, hJ⟩
    cases todo with
    | nil => cases hy
    | cons a todo =>
      simp only [List.map_cons, List.cons.injEq] at hy
      obtain ⟨rfl, rfl⟩ := hy
      obtain ⟨r1, e3, ⟨w, s2⟩, e5, ⟨⟨d, s3⟩, e6, q2⟩⟩ := hs done a todo acc s e hJ
      exact ⟨r1, e3, ⟨(true, s), by simp only [evC], ⟨(w, s2), e5, ⟨(d, s3), e6, stay_nil, rfl, done ++ [a], todo, by rw [e, List.append_assoc]; rfl, rfl, q2⟩⟩⟩⟩
end
section
variable {C : CallF} {r : Rho} {st s0 : Mem} {elt c : Ex} {tg : Tg} {it : Itx} {own ls : List Nat} {Q : List PyData → Mem → Prop} {x : PyData} {xs : List PyData}
/-- a comprehension over what is left -/
structure wLc (C : CallF) (elt : Ex) (tg : Tg) (r : Rho) (own : List Nat) (ls : List Nat) (s0 : Mem) (xs : List PyData) (st : Mem) (Q : List PyData → Mem → Prop) : Prop where of ::
  go : wp (lcLoop (fun x st => (bindT tg (.val x) (wipeR r own)).bind fun r1 => (evC C .nil r1 st).bind fun (k, s1) =>
        if k then (ev C elt r1 s1).bind fun (w, s2) => (frz s2 w).bind fun (d, s3) => some (some d, s3) else some (none, s1)) ls s0 xs st) fun p => Q p.1 p.2
theorem wf_lcU (h : wI C it r st fun xs ls s0 => wLc C elt tg r own ls s0 xs s0 Q) : wF C (.lc elt tg it .nil own) r st Q := by
  obtain ⟨⟨xs, ls, s0⟩, e1, p, e2, q⟩ := h
  exact ⟨p, by simp only [evF, e1, Option.bind_some]; exact e2, q⟩
theorem wlc_nil (q : Q [] st) : wLc C elt tg r own ls s0 [] st Q := ⟨([], st), by simp only [lcLoop], q⟩
theorem wlc_cons (h : wp (bindT tg (.val x) (wipeR r own)) fun r1 => wE C elt r1 st fun w s2 => wZ s2 w fun d s3 => wLc C elt tg r own [] s0 xs s3 fun ds s4 => Q (d :: ds) s4) : wLc C elt tg r own [] s0 (x :: xs) st Q := by
  obtain ⟨r1, e1, ⟨w, s2⟩, e2, ⟨⟨d, s3⟩, e3, ⟨⟨⟨ds, s4⟩, e4, q⟩⟩⟩⟩ := h
  refine ⟨(d :: ds, s4), ?_, q⟩
  unfold lcLoop
  have e5 : ((bindT tg (.val x) (wipeR r own)).bind fun r1 => (evC C .nil r1 st).bind fun (k, s1) =>
        if k then (ev C elt r1 s1).bind fun (w, s2) => (frz s2 w).bind fun (d, s3) => some (some d, s3) else some (none, s1)) = some (some d, s3) := by
    have e3' : frz s2 w = some (d, s3) := e3
    simp only [e1, evC, Option.bind_some, if_true, e2, e3']
  rw [e5, Option.bind_some]
  simp only
  rw [if_pos stay_nil]
  have e4' := e4
  simp only at e4'
  rw [e4']
  rfl
theorem rng3 : rngD 0 (Int.toNat 3) = [.int 0, .int 1, .int 2] := rfl
end
section
variable {C : CallF} {r : Rho} {st : Mem} {a b e : Ex}
/-- two sequences side by side -/
def zipV (st : Mem) (x y : W) : Option (List PyData × List Nat) := (look st x).bind fun dx => (look st y).bind fun dy => match dx, dy with
  | .list xs, .list ys => some (List.zipWith (fun u v => .tuple [u, v]) xs ys, locs1 x ++ locs1 y)
  | .tuple xs, .tuple ys => some (List.zipWith (fun u v => .tuple [u, v]) xs ys, [])
  | .list xs, .tuple ys => some (List.zipWith (fun u v => .tuple [u, v]) xs ys, locs1 x ++ locs1 y)
  | .tuple xs, .list ys => some (List.zipWith (fun u v => .tuple [u, v]) xs ys, locs1 x ++ locs1 y)
  | _, _ => none
theorem wi_zip {Q : List PyData → List Nat → Mem → Prop} (h : wE C a r st fun x s1 => wE C b r s1 fun y s2 => wp (zipV s2 x y) fun p => Q p.1 p.2 s2) : wI C (.zip a b) r st Q := by
  obtain ⟨⟨x, s1⟩, e1, ⟨y, s2⟩, e2, ⟨xs, ls⟩, e3, q⟩ := h
  refine ⟨(xs, ls, s2), ?_, q⟩
  unfold zipV at e3
  simp only [Option.bind_eq_some_iff] at e3
  obtain ⟨dx, h3, dy, h4, h5⟩ := e3
  simp only [evI, e1, e2, Option.bind_some, h3, h4]
  split at h5
  · cases h5; rfl
  · cases h5; rfl
  · cases h5; rfl
  · cases h5; rfl
  · cases h5
theorem wi_zipRT {Q : List PyData → List Nat → Mem → Prop} (h : wE C a r st fun x s1 => wE C b r s1 fun y s2 => ∃ xs ys, x = .val (.tuple xs) ∧ y = .val (.tuple ys) ∧ Q (List.zipWith (fun u v => .tuple [u, v]) xs ys.reverse) [] s2) : wI C (.zipR a b) r st Q := by
  obtain ⟨⟨x, s1⟩, e1, ⟨y, s2⟩, e2, xs, ys, ex, ey, q⟩ := h
  exact ⟨(_, [], s2), by simp only [evI, e1, e2, show x = .val (.tuple xs) from ex, show y = .val (.tuple ys) from ey, Option.bind_some, look]; rfl, q⟩
/-- an item put behind an own list -/
structure wAp (st : Mem) (k : Nat) (d : PyData) (Q : WQ) : Prop where of ::
  go : ∃ ds, st[k]? = some (true, ds) ∧ ds.length < lineN ∧ Q (.val .none) (st.set k (true, ds ++ [d]))
theorem we_app {Q : WQ} {i k : Nat} (hr : r[i]? = some (some (.loc k))) (h : wE C e r st fun w s1 => wZ s1 w fun d s2 => wAp s2 k d Q) : wE C (.mt .app (.var i) (.cons e .nil)) r st Q := by
  obtain ⟨⟨w, s1⟩, e1, ⟨⟨d, s2⟩, e2, ⟨ds, h1, h2, q⟩⟩⟩ := h
  refine we_mt (we_var hr ⟨([w], s1), by simp only [evs, e1, Option.bind_some], ?_⟩)
  -- the list that is written is the one ahead of the freezing
  have hs : ∃ ds', s1[k]? = some (true, ds') ∧ ds' = ds := by
    cases w with
    | val d' => cases e2; exact ⟨ds, h1, rfl⟩
    | scr ns => cases e2
    | pk _ _ => cases e2
    | dic _ => cases e2
    | loc j =>
      simp only [frz, Option.map_eq_some_iff] at e2
      obtain ⟨c, hc, e3⟩ := e2
      cases e3
      have hj : j < s1.length := (List.getElem?_eq_some_iff.mp hc).1
      by_cases hjk : j = k
      · subst hjk
        rw [List.getElem?_set_self hj] at h1
        cases h1
      · rw [List.getElem?_set_ne hjk] at h1
        exact ⟨ds, h1, rfl⟩
  obtain ⟨ds', hs, rfl⟩ := hs
  refine ⟨k, ds', rfl, hs, ⟨(ds' ++ [d], s2), ?_, ⟨ds', h1⟩, q⟩⟩
  simp only [mtD, e2, Option.bind_some]
  rw [if_pos h2]
theorem wap_end {Q : WQ} {u : Mem} {k : Nat} {d : PyData} {ds : List PyData} (hL : u.length = k) (hl : ds.length < lineN) (q : Q (.val .none) (u ++ [(true, ds ++ [d])])) : wAp (u ++ [(true, ds)]) k d Q :=
  ⟨ds, at_end hL, hl, by rw [set_end hL]; exact q⟩
theorem wap_mid {Q : WQ} {u v : Mem} {k : Nat} {d : PyData} {ds : List PyData} (hL : u.length = k) (hl : ds.length < lineN) (q : Q (.val .none) (u ++ (true, ds ++ [d]) :: v)) : wAp (u ++ (true, ds) :: v) k d Q :=
  ⟨ds, at_mid hL, hl, by rw [set_mid hL]; exact q⟩
/-- items put behind an own list -/
structure wXt (st : Mem) (k : Nat) (d : PyData) (Q : WQ) : Prop where of ::
  go : ∃ ds es, (d = .list es ∨ d = .tuple es) ∧ st[k]? = some (true, ds) ∧ ds.length + es.length ≤ lineN ∧ Q (.val .none) (st.set k (true, ds ++ es))
theorem we_ext {Q : WQ} {i k : Nat} (hr : r[i]? = some (some (.loc k))) (h : wE C e r st fun w s1 => wL s1 w fun d => wXt s1 k d Q) : wE C (.mt .ext (.var i) (.cons e .nil)) r st Q := by
  obtain ⟨⟨w, s1⟩, e1, ⟨d, e2, ⟨ds, es, ed, h1, h2, q⟩⟩⟩ := h
  refine we_mt (we_var hr ⟨([w], s1), by simp only [evs, e1, Option.bind_some], ?_⟩)
  refine ⟨k, ds, rfl, h1, ⟨(ds ++ es, s1), ?_, ⟨ds, h1⟩, q⟩⟩
  rcases ed with ed | ed
  · have e2' : lookD s1 w = some (.list es) := by rw [← ed]; exact e2
    simp only [mtD, e2']
    rw [if_pos h2]
  · have e2' : lookD s1 w = some (.tuple es) := by rw [← ed]; exact e2
    simp only [mtD, e2']
    rw [if_pos h2]
theorem wxt_end {Q : WQ} {u : Mem} {k : Nat} {ds es : List PyData} (hL : u.length = k) (hl : ds.length + es.length ≤ lineN) (q : Q (.val .none) (u ++ [(true, ds ++ es)])) : wXt (u ++ [(true, ds)]) k (.list es) Q :=
  ⟨ds, es, .inl rfl, at_end hL, hl, by rw [set_end hL]; exact q⟩
theorem wxt_endT {Q : WQ} {u : Mem} {k : Nat} {ds es : List PyData} (hL : u.length = k) (hl : ds.length + es.length ≤ lineN) (q : Q (.val .none) (u ++ [(true, ds ++ es)])) : wXt (u ++ [(true, ds)]) k (.tuple es) Q :=
  ⟨ds, es, .inr rfl, at_end hL, hl, by rw [set_end hL]; exact q⟩
theorem wxt_mid {Q : WQ} {u v : Mem} {k : Nat} {ds es : List PyData} (hL : u.length = k) (hl : ds.length + es.length ≤ lineN) (q : Q (.val .none) (u ++ (true, ds ++ es) :: v)) : wXt (u ++ (true, ds) :: v) k (.list es) Q :=
  ⟨ds, es, .inl rfl, at_mid hL, hl, by rw [set_mid hL]; exact q⟩
/-- an own list, read -/
theorem wlk_end {u : Mem} {l : Bool} {ds : List PyData} {k : Nat} {Q : PyData → Prop} (hL : u.length = k) (q : Q (.list ds)) : wL (u ++ [(l, ds)]) (.loc k) Q := wl_loc (at_end hL) q
theorem wlk_mid {u v : Mem} {l : Bool} {ds : List PyData} {k : Nat} {Q : PyData → Prop} (hL : u.length = k) (q : Q (.list ds)) : wL (u ++ (l, ds) :: v) (.loc k) Q := wl_loc (at_mid hL) q
theorem wpl_end {u : Mem} {l : Bool} {ds : List PyData} {k : Nat} {Q : List PyData → Prop} (hL : u.length = k) (q : Q [.list ds]) : wp (looks (u ++ [(l, ds)]) [.loc k]) Q := wp_is (looks_one (look_end hL)) q
theorem wpl_mid {u v : Mem} {l : Bool} {ds : List PyData} {k : Nat} {Q : List PyData → Prop} (hL : u.length = k) (q : Q [.list ds]) : wp (looks (u ++ (l, ds) :: v) [.loc k]) Q := wp_is (looks_one (look_mid hL)) q
theorem wpk_end {u : Mem} {l : Bool} {ds : List PyData} {k : Nat} {Q : PyData → Prop} (hL : u.length = k) (q : Q (.list ds)) : wp (look (u ++ [(l, ds)]) (.loc k)) Q := wp_is (look_end hL) q
theorem wpk_mid {u v : Mem} {l : Bool} {ds : List PyData} {k : Nat} {Q : PyData → Prop} (hL : u.length = k) (q : Q (.list ds)) : wp (look (u ++ (l, ds) :: v) (.loc k)) Q := wp_is (look_mid hL) q
theorem wsq_end {u : Mem} {l : Bool} {ds : List PyData} {k : Nat} {Q : List PyData → Prop} (hL : u.length = k) (q : Q ds) : wp (seqOf (u ++ [(l, ds)]) (.loc k)) Q := wp_is (by unfold seqOf; rw [look_end hL]) q
/-- a def with own lists ends -/
theorem wd_end {lv : Bool} {n0 : Nat} {Q : WQ} {u v : Mem} {d : PyData} (hL : u.length = n0) (h : Q (.val d) u) : doneK lv n0 Q (.ret (.val d)) r (u ++ v) := wd_val (by rw [take_mid hL]; exact h)
theorem wd_loc {n0 : Nat} {Q : WQ} {u v : Mem} {l : Bool} {ds : List PyData} (hL : u.length = n0) (h : Q (.val (.list ds)) u) : doneK false n0 Q (.ret (.loc n0)) r (u ++ (l, ds) :: v) :=
  ⟨⟨(.val (.list ds), u), by simp only [leave, Nat.lt_irrefl, if_false, at_mid hL, take_mid hL]; rfl, h⟩⟩
end
/-! ### fractions and texts by search -/
/-- data that is a fraction of some size -/
structure Fr (n : Nat) (x : PyData) (q : Rat) : Prop where
  e : x = F q
  s : Sz n q
theorem fr_F {n : Nat} {q : Rat} (h : Sz n q) : Fr n (F q) q := ⟨rfl, h⟩
theorem fr_int {n : Nat} {i : Int} (h0 : 0 < n) (h : i.natAbs < 2 ^ n) : Fr n (.tuple [.int i, .int 1]) (i : Rat) := ⟨rfl, sz_int h0 h⟩
theorem fr_0 : Fr 1 (.tuple [.int 0, .int 1]) 0 := ⟨rfl, by decide, by decide⟩
theorem fr_1 : Fr 1 (.tuple [.int 1, .int 1]) 1 := ⟨rfl, by decide, by decide⟩
theorem fr_pair {n : Nat} {t b : Int} (hb : 0 < b) (hg : Int.gcd t b = 1) (ht : t.natAbs < 2 ^ n) (hb2 : b.natAbs < 2 ^ n) : Fr n (.tuple [.int t, .int b]) ((t : Rat) / (b : Rat)) := ⟨F_of hb hg, sz_part (by omega) ht hb2⟩
theorem sz_min {a b : Nat} {p q : Rat} (hp : Sz a p) (hq : Sz b q) : Sz (max a b) (rmin p q) := by
  unfold rmin; split
  · exact hq.mono (Nat.le_max_right ..)
  · exact hp.mono (Nat.le_max_left ..)
theorem sz_max {a b : Nat} {p q : Rat} (hp : Sz a p) (hq : Sz b q) : Sz (max a b) (rmax p q) := by
  unfold rmax; split
  · exact hq.mono (Nat.le_max_right ..)
  · exact hp.mono (Nat.le_max_left ..)
theorem sz_0 : Sz 1 0 := ⟨by decide, by decide⟩
theorem sz_1 : Sz 1 1 := ⟨by decide, by decide⟩
theorem Cz.sm {n : Nat} {c : Cn} (h : Cz n c) : Sz n c.m := h.1
theorem Cz.sx {n : Nat} {c : Cn} (h : Cz n c) : Sz n c.x := h.2.1
theorem Cz.sy {n : Nat} {c : Cn} (h : Cz n c) : Sz n c.y := h.2.2.1
theorem Cz.sz {n : Nat} {c : Cn} (h : Cz n c) : Sz n c.z := h.2.2.2
theorem ncl_map {α : Type} {k n N : Nat} {f : α → PyData} {as : List α} (h : ∀ a ∈ as, Nc k n (f a)) (hl : as.length ≤ N) : NcL k ((n + 2) * N) (as.map f) := by
  have g := ncl_all (ds := as.map f) (k := k) (n := n) fun d hd => by
    obtain ⟨a, ha, rfl⟩ := List.mem_map.mp hd
    exact h a ha
  exact ⟨g.1, g.2.1, Nat.le_trans g.2.2 (Nat.mul_le_mul_left _ (by rw [List.length_map]; exact hl))⟩
/-- what str() tells the text of -/
structure Tn (k n : Nat) (d : PyData) : Prop where
  nc : Nc k n d
  kd : d = .none ∨ ∃ ds, d = .list ds ∨ d = .tuple ds
theorem tn_none : Tn 0 4 .none := ⟨nc_none, .inl rfl⟩
theorem tn_list {k n : Nat} {ds : List PyData} (h : Nc k n (.list ds)) : Tn k n (.list ds) := ⟨h, .inr ⟨ds, .inl rfl⟩⟩
theorem tn_tuple {k n : Nat} {ds : List PyData} (h : Nc k n (.tuple ds)) : Tn k n (.tuple ds) := ⟨h, .inr ⟨ds, .inr rfl⟩⟩
theorem tn_F {m : Nat} {q : Rat} (h : Sz m q) (hm : m ≤ 1900) : Tn 1 (2 * m + 12) (F q) := ⟨nc_F h hm, .inr ⟨_, .inr rfl⟩⟩
theorem Tn.mono {k n k' n' : Nat} {d : PyData} (h : Tn k n d) (hk : k ≤ k') (hn : n ≤ n') : Tn k' n' d := ⟨h.nc.mono hk hn, h.kd⟩
theorem wbl_strT {d : PyData} {k n : Nat} {Q : PyData → Prop} (h : Tn k n d) (hk : k ≤ 60) (hn : n ≤ 16777216) (q : Q (.str d.shown)) : wBl .str1 [d] Q := by
  rcases h.kd with rfl | ⟨ds, hd⟩
  · exact ⟨_, rfl, q⟩
  · exact wbl_str hd h.nc hk hn q
theorem nc_C {m : Nat} {c : Cn} (h : Cz m c) (hm : m ≤ 1900) : Nc 2 (8 * m + 60) (C c) :=
  (nc_tuple (ncl_cons (nc_F h.1 hm) (ncl_cons (nc_F h.2.1 hm) (ncl_cons (nc_F h.2.2.1 hm) (ncl_cons (nc_F h.2.2.2 hm) ncl_nil))))).mono (by decide) (by omega)
theorem nc_CL {m : Nat} {c : Cn} (h : Cz m c) (hm : m ≤ 1900) : Nc 2 (8 * m + 60) (CL c) :=
  (nc_list (ncl_cons (nc_F h.1 hm) (ncl_cons (nc_F h.2.1 hm) (ncl_cons (nc_F h.2.2.1 hm) (ncl_cons (nc_F h.2.2.2 hm) ncl_nil))))).mono (by decide) (by omega)
theorem wc_eqSs {x : Str} {P : Bool → Prop} (q : P true) : wP .eq (.str x) (.str x) P := wc_eqS (by rw [decide_eq_true rfl]; exact q)
theorem wc_neSs {x : Str} {P : Bool → Prop} (q : P false) : wP .ne (.str x) (.str x) P := wc_neS (by rw [decide_eq_true rfl]; exact q)
theorem wc_neV {d : PyData} {k n : Nat} {P : Bool → Prop} (h : Nc k n d) (hk : k ≤ 60) (q : P false) : wP .ne d d P := by
  obtain ⟨b, e, q'⟩ := wc_eqV (P := fun b => b = true) h hk rfl
  refine ⟨!b, ?_, by rw [show b = true from q']; exact q⟩
  show (eqD d d).map (!·) = some (!b)
  rw [show eqD d d = some b from e]
  rfl
theorem bl_all {α : Type} {p : α → Bool} {as : List α} : bltD .all1 [.list (as.map fun a => .bool (p a))] = some (.bool (as.all p)) := by
  simp [bltD, bools_map]
theorem bl_any {α : Type} {p : α → Bool} {as : List α} : bltD .any1 [.list (as.map fun a => .bool (p a))] = some (.bool (as.any p)) := by
  simp [bltD, bools_map]
theorem F_eq {p q : Rat} : F p = F q ↔ p = q := ⟨F_inj, fun h => by rw [h]⟩
/-- two fractions that are compared -/
theorem eqv_F {p q : Rat} : PyData.eqv (F p) (F q) = decide (p = q) := by
  unfold F
  simp only [PyData.eqv, PyData.eqvAll, Bool.and_true]
  rw [Bool.eq_iff_iff]
  simp only [Bool.and_eq_true, decide_eq_true_eq, beq_iff_eq]
  constructor
  · rintro ⟨h1, h2⟩
    exact Rat.ext h1 (by omega)
  · rintro rfl
    exact ⟨rfl, rfl⟩
/-- a plan, of tuples or of lists -/
theorem K_m {K : Cn → PyData} (hK : K = C ∨ K = CL) (c : Cn) : idxD (K c) (.int 0) = some (F c.m) := by rcases hK with rfl | rfl <;> rfl
theorem K_t {K : Cn → PyData} (hK : K = C ∨ K = CL) (c : Cn) : bltD .tup1 [K c] = some (C c) := by rcases hK with rfl | rfl <;> rfl
theorem P_sq {K : Cn → PyData} {cs : List Cn} {d : PyData} (hd : d = .tuple (cs.map K) ∨ d = .list (cs.map K)) (s : Mem) : seqOf s (.val d) = some (cs.map K) := by rcases hd with rfl | rfl <;> rfl
theorem P_ix {K : Cn → PyData} {cs : List Cn} {d : PyData} (hd : d = .tuple (cs.map K) ∨ d = .list (cs.map K)) {i : Int} {c : Cn} (h : idxD (.tuple (cs.map C)) (.int i) = some (C c)) : idxD d (.int i) = some (K c) := by
  have h' : atI (cs.map C) i = some (C c) := h
  have : atI (cs.map K) i = some (K c) := by
    unfold atI at h' ⊢
    rw [List.length_map] at h' ⊢
    cases e : ixN cs.length i with
    | none => rw [e] at h'; cases h'
    | some j =>
      rw [e] at h'
      simp only [Option.bind_some, List.getElem?_map] at h' ⊢
      cases g : cs[j]? with
      | none => rw [g] at h'; cases h'
      | some x =>
        rw [g] at h'
        simp only [Option.map_some, Option.some.injEq, C, PyData.tuple.injEq, List.cons.injEq, and_true] at h' ⊢
        obtain ⟨xm, xx, xy, xz⟩ := x
        obtain ⟨cm, cx, cy, cz⟩ := c
        obtain ⟨h1, h2, h3, h4⟩ := h'
        obtain rfl : xm = cm := F_inj h1
        obtain rfl : xx = cx := F_inj h2
        obtain rfl : xy = cy := F_inj h3
        obtain rfl : xz = cz := F_inj h4
        rfl
  rcases hd with rfl | rfl
  · exact this
  · exact this
theorem P_len {K : Cn → PyData} {cs : List Cn} {d : PyData} (hd : d = .tuple (cs.map K) ∨ d = .list (cs.map K)) : bltD .len [d] = some (.int cs.length) := by
  rcases hd with rfl | rfl <;> simp [bltD]
theorem C_at {cs xs ys : List Cn} {c : Cn} {i : Int} (e : cs = xs ++ c :: ys) (hi : i = xs.length) : idxD (.tuple (cs.map C)) (.int i) = some (C c) := by
  subst hi e
  rw [List.map_append, List.map_cons]
  have := idx_at (xs := xs.map C) (ys := ys.map C) (d := C c)
  rwa [List.length_map] at this
theorem wc_eqTT {xs ys : List PyData} {j k m n : Nat} {P : Bool → Prop} (hx : Nc j m (.tuple xs)) (hy : Nc k n (.tuple ys)) (hj : j ≤ 60) (hk : k ≤ 60) (q : P (PyData.eqv (.tuple xs) (.tuple ys))) : wP .eq (.tuple xs) (.tuple ys) P := by
  refine ⟨_, ?_, q⟩
  show eqD (.tuple xs) (.tuple ys) = _
  unfold eqD
  simp only
  rw [nc_fit hx hj, nc_fit hy hk]
  rfl
theorem wc_neTT {xs ys : List PyData} {j k m n : Nat} {P : Bool → Prop} (hx : Nc j m (.tuple xs)) (hy : Nc k n (.tuple ys)) (hj : j ≤ 60) (hk : k ≤ 60) (q : P (!PyData.eqv (.tuple xs) (.tuple ys))) : wP .ne (.tuple xs) (.tuple ys) P := by
  refine ⟨_, ?_, q⟩
  show (eqD (.tuple xs) (.tuple ys)).map (!·) = _
  unfold eqD
  simp only
  rw [nc_fit hx hj, nc_fit hy hk]
  rfl
theorem wc_eqF {m n : Nat} {p q : Rat} {x y : PyData} {P : Bool → Prop} (hx : Fr m x p) (hy : Fr n y q) (hm : m ≤ 1900) (hn : n ≤ 1900) (h : P (decide (p = q))) : wP .eq x y P := by
  rw [hx.e, hy.e]
  exact wc_eqTT (nc_F hx.s hm) (nc_F hy.s hn) (by decide) (by decide) (by
    have e : PyData.eqv (F p) (F q) = decide (p = q) := eqv_F
    exact e ▸ h)
theorem wc_neF {m n : Nat} {p q : Rat} {x y : PyData} {P : Bool → Prop} (hx : Fr m x p) (hy : Fr n y q) (hm : m ≤ 1900) (hn : n ≤ 1900) (h : P (!decide (p = q))) : wP .ne x y P := by
  rw [hx.e, hy.e]
  exact wc_neTT (nc_F hx.s hm) (nc_F hy.s hn) (by decide) (by decide) (by
    have e : PyData.eqv (F p) (F q) = decide (p = q) := eqv_F
    exact e ▸ h)
theorem wc_neBs {b : Bool} {P : Bool → Prop} (q : P false) : wP .ne (.bool b) (.bool b) P := wc_neV nc_bool (by decide) q
theorem Cn.ext4 {a b : Cn} (h1 : a.m = b.m) (h2 : a.x = b.x) (h3 : a.y = b.y) (h4 : a.z = b.z) : a = b := by
  obtain ⟨am, ax, ay, az⟩ := a
  obtain ⟨bm, bx, byy, bz⟩ := b
  simp only at h1 h2 h3 h4
  rw [h1, h2, h3, h4]
instance : DecidableEq Cn := fun a b => if h : a.m = b.m ∧ a.x = b.x ∧ a.y = b.y ∧ a.z = b.z then .isTrue (Cn.ext4 h.1 h.2.1 h.2.2.1 h.2.2.2) else .isFalse (fun e => h (by subst e; exact ⟨rfl, rfl, rfl, rfl⟩))
theorem eqv_C {a b : Cn} : PyData.eqv (C a) (C b) = decide (a = b) := by
  unfold C
  simp only [PyData.eqv, PyData.eqvAll, eqv_F, Bool.and_true]
  rw [Bool.eq_iff_iff]
  simp only [Bool.and_eq_true, decide_eq_true_eq]
  constructor
  · rintro ⟨h1, h2, h3, h4⟩
    exact Cn.ext4 h1 h2 h3 h4
  · rintro rfl
    exact ⟨rfl, rfl, rfl, rfl⟩
theorem eqv_Cs : ∀ {as bs : List Cn}, PyData.eqv (.tuple (as.map C)) (.tuple (bs.map C)) = decide (as = bs)
  | [], [] => rfl
  | [], b :: bs => by simp [PyData.eqv, PyData.eqvAll]
  | a :: as, [] => by simp [PyData.eqv, PyData.eqvAll]
  | a :: as, b :: bs => by
    have ih := eqv_Cs (as := as) (bs := bs)
    simp only [PyData.eqv] at ih
    simp only [PyData.eqv, List.map_cons, PyData.eqvAll, eqv_C, ih]
    rw [Bool.eq_iff_iff]
    simp
end Sk

/-! SkS: stretches of moments: what is told of them, in plain Lean -/
namespace Sk
/-- a stretch: from b on, b itself where h is 1, to below e or without an end -/
structure Stt where
  b : Rat
  h : Int
  e : Option Rat
/-- a place: a moment, 0 for itself, 1 for just behind it -/
structure Pl where
  m : Rat
  s : Int
instance : DecidableEq Pl := fun a b => if h : a.m = b.m ∧ a.s = b.s then .isTrue (by cases a; cases b; simp_all) else .isFalse (fun e => h (by subst e; exact ⟨rfl, rfl⟩))
def Pl.lt (p q : Pl) : Prop := p.m < q.m ∨ (p.m = q.m ∧ p.s < q.s)
def Pl.le (p q : Pl) : Prop := p.m < q.m ∨ (p.m = q.m ∧ p.s ≤ q.s)
instance (p q : Pl) : Decidable (Pl.lt p q) := inferInstanceAs (Decidable (_ ∨ _))
instance (p q : Pl) : Decidable (Pl.le p q) := inferInstanceAs (Decidable (_ ∨ _))
theorem Pl.ext' {p q : Pl} (h1 : p.m = q.m) (h2 : p.s = q.s) : p = q := by cases p; cases q; simp_all
theorem Pl.lt_trans {p q r : Pl} (h : p.lt q) (g : q.lt r) : p.lt r := by unfold Pl.lt at *; grind
theorem Pl.lt_le {p q r : Pl} (h : p.lt q) (g : q.le r) : p.lt r := by unfold Pl.lt Pl.le at *; grind
theorem Pl.le_lt {p q r : Pl} (h : p.le q) (g : q.lt r) : p.lt r := by unfold Pl.lt Pl.le at *; grind
theorem Pl.le_trans {p q r : Pl} (h : p.le q) (g : q.le r) : p.le r := by unfold Pl.le at *; grind
theorem Pl.le_of_lt {p q : Pl} (h : p.lt q) : p.le q := by unfold Pl.lt Pl.le at *; grind
theorem Pl.le_refl (p : Pl) : p.le p := by unfold Pl.le; grind
theorem Pl.not_lt {p q : Pl} : ¬ p.lt q ↔ q.le p := by unfold Pl.lt Pl.le; grind
theorem Pl.not_le {p q : Pl} : ¬ p.le q ↔ q.lt p := by unfold Pl.lt Pl.le; grind
theorem Pl.lt_irrefl (p : Pl) : ¬ p.lt p := by unfold Pl.lt; grind
theorem Pl.le_anti {p q : Pl} (h : p.le q) (g : q.le p) : p = q := by
  unfold Pl.le at *
  exact Pl.ext' (by grind) (by grind)
theorem Pl.lt_or {p q : Pl} : p.lt q ∨ p = q ∨ q.lt p := by
  by_cases h : p.lt q
  · exact .inl h
  · by_cases g : q.lt p
    · exact .inr (.inr g)
    · exact .inr (.inl (Pl.le_anti (Pl.not_lt.mp g) (Pl.not_lt.mp h)))
/-- whether a place is in a stretch -/
def covB (s : Stt) (p : Pl) : Bool := decide (Pl.le ⟨s.b, 1 - s.h⟩ p) && (match s.e with | none => true | some e => decide (Pl.lt p ⟨e, 0⟩))
def cntS (S : List Stt) (p : Pl) : Nat := (S.filter fun s => covB s p).length
/-- stretches as they are drawn and told -/
def Stt.ok (s : Stt) : Prop := (s.h = 0 ∨ s.h = 1) ∧ ∀ e, s.e = some e → s.b < e
/-- the places at which stretches begin and end -/
def isPl (S : List Stt) (p : Pl) : Prop := ∃ s ∈ S, p = ⟨s.b, 1 - s.h⟩ ∨ ∃ e, s.e = some e ∧ p = ⟨e, 0⟩
theorem cov_same {s : Stt} {p q : Pl} (hs : s.ok) (hpq : p.le q) (h1 : ¬ (p.lt ⟨s.b, 1 - s.h⟩ ∧ Pl.le ⟨s.b, 1 - s.h⟩ q)) (h2 : ∀ e, s.e = some e → ¬ (p.lt ⟨e, 0⟩ ∧ Pl.le ⟨e, 0⟩ q)) : covB s p = covB s q := by
  have e1 : decide (Pl.le ⟨s.b, 1 - s.h⟩ p) = decide (Pl.le ⟨s.b, 1 - s.h⟩ q) := by
    rw [decide_eq_decide]
    constructor
    · intro h; exact Pl.le_trans h hpq
    · intro h
      by_cases g : Pl.le ⟨s.b, 1 - s.h⟩ p
      · exact g
      · exact absurd ⟨Pl.not_le.mp g, h⟩ h1
  unfold covB
  rw [e1]
  cases he : s.e with
  | none => rfl
  | some e =>
    have := h2 e he
    have e2 : decide (Pl.lt p ⟨e, 0⟩) = decide (Pl.lt q ⟨e, 0⟩) := by
      rw [decide_eq_decide]
      constructor
      · intro h
        by_cases g : Pl.lt q ⟨e, 0⟩
        · exact g
        · exact absurd ⟨h, Pl.not_lt.mp g⟩ this
      · intro h; exact Pl.le_lt hpq h
    simp only [e2]
/-- nothing changes where no stretch begins or ends -/
theorem cnt_same {S : List Stt} {p q : Pl} (hs : ∀ s ∈ S, s.ok) (hpq : p.le q) (h : ∀ r, isPl S r → ¬ (p.lt r ∧ r.le q)) : cntS S p = cntS S q := by
  unfold cntS
  congr 1
  refine List.filter_congr fun s hm => ?_
  exact cov_same (hs s hm) hpq (h _ ⟨s, hm, .inl rfl⟩) fun e he => h _ ⟨s, hm, .inr ⟨e, he, rfl⟩⟩
theorem cnt_before {S : List Stt} {p : Pl} (h : ∀ r, isPl S r → p.lt r) : cntS S p = 0 := by
  unfold cntS
  rw [List.length_eq_zero_iff, List.filter_eq_nil_iff]
  intro s hm
  have := h _ ⟨s, hm, .inl rfl⟩
  unfold covB
  rw [decide_eq_false (Pl.not_le.mpr this)]
  simp
/-! ### what is told of places and truths -/
abbrev Bp := Pl × Bool
def scanB : Option (Rat × Int) → List Bp → List Stt
  | none, [] => []
  | some (b, h), [] => [⟨b, h, none⟩]
  | none, (p, k) :: l => if k = true then scanB (some (p.m, 1 - p.s)) l else scanB none l
  | some (b, h), (p, k) :: l => if k = false then ⟨b, h, some p.m⟩ :: scanB none l else scanB (some (b, h)) l
/-- a place more, at which nothing changes -/
theorem scan_skip_none {p : Pl} {l : List Bp} : scanB none ((p, false) :: l) = scanB none l := by rw [scanB]; rfl
theorem scan_skip_some {p : Pl} {b : Rat × Int} {l : List Bp} : scanB (some b) ((p, true) :: l) = scanB (some b) l := by rw [scanB]; rfl
/-- two rising lists of places, the one with all the places at which the truth changes -/
theorem scan_eq {f : Pl → Bool} : ∀ {L' L : List Pl} {st : Option (Rat × Int)} {k : Bool}, L'.Pairwise Pl.lt → L.Sublist L' →
    (∀ p ∈ L', p ∉ L → ∀ q, (q ∈ L' ∧ q.lt p ∧ ∀ r ∈ L', r.lt p → r.le q) → f p = f q) →
    (∀ p, L'.head? = some p → p ∉ L → f p = k) → (st.isSome = k) →
    scanB st (L'.map fun p => (p, f p)) = scanB st (L.map fun p => (p, f p))
  | [], L, st, k, _, hs, _, _, _ => by
    rw [List.sublist_nil.mp hs]
  | p :: L', L, st, k, hp, hs, hc, hh, hk => by
    obtain ⟨h1, h2⟩ := List.pairwise_cons.mp hp
    -- the truth behind p
    have next : ∀ (L2 : List Pl), L2.Sublist L' → (∀ x ∈ L', x ∉ L2 → x ∉ L) → ∀ st' : Option (Rat × Int), st'.isSome = f p → scanB st' (L'.map fun p => (p, f p)) = scanB st' (L2.map fun p => (p, f p)) := by
      intro L2 hs2 hn st' hst
      refine scan_eq (k := f p) h2 hs2 (fun x hx hxn q hq => ?_) (fun x hx hxn => ?_) hst
      · refine hc x (List.mem_cons_of_mem _ hx) (hn x hx hxn) q ⟨List.mem_cons_of_mem _ hq.1, hq.2.1, fun r hr hrx => ?_⟩
        rcases List.mem_cons.mp hr with rfl | hr
        · exact Pl.le_of_lt (h1 q hq.1)
        · exact hq.2.2 r hr hrx
      · have hxm : x ∈ L' := List.mem_of_head? hx
        refine hc x (List.mem_cons_of_mem _ hxm) (hn x hxm hxn) p ⟨List.mem_cons_self .., h1 x hxm, fun r hr hrx => ?_⟩
        rcases List.mem_cons.mp hr with rfl | hr
        · exact Pl.le_refl _
        · -- x is the least of L'
          exfalso
          cases L' with
          | nil => cases hr
          | cons y L' =>
            simp only [List.head?_cons, Option.some.injEq] at hx
            subst hx
            rcases List.mem_cons.mp hr with rfl | hr
            · exact Pl.lt_irrefl _ hrx
            · exact Pl.lt_irrefl _ (Pl.lt_trans hrx ((List.pairwise_cons.mp h2).1 r hr))
    by_cases hpl : p ∈ L
    · -- p stands first in both
      obtain ⟨L2, rfl, hs2⟩ : ∃ L2, L = p :: L2 ∧ L2.Sublist L' := by
        cases hs with
        | cons _ hs => exact absurd (h1 p (hs.subset hpl)) (Pl.lt_irrefl p)
        | cons_cons _ hs => exact ⟨_, rfl, hs⟩
      have hn : ∀ x ∈ L', x ∉ L2 → x ∉ p :: L2 := fun x hx hxn hxm => by
        rcases List.mem_cons.mp hxm with rfl | hxm
        · exact Pl.lt_irrefl _ (h1 _ hx)
        · exact hxn hxm
      simp only [List.map_cons]
      cases st with
      | none =>
        simp only [scanB]
        cases hf : f p with
        | true => simp only [if_true]; exact next L2 hs2 hn _ (by rw [hf]; rfl)
        | false => exact next L2 hs2 hn _ (by rw [hf]; rfl)
      | some bh =>
        obtain ⟨b, h⟩ := bh
        simp only [scanB]
        cases hf : f p with
        | false => simp only [if_true]; rw [next L2 hs2 hn _ (by rw [hf]; rfl)]
        | true => exact next L2 hs2 hn _ (by rw [hf]; rfl)
    · have hs2 : L.Sublist L' := by
        cases hs with
        | cons _ hs => exact hs
        | cons_cons _ hs => exact absurd (List.mem_cons_self ..) hpl
      have hfk : f p = k := hh p rfl hpl
      have hn : ∀ x ∈ L', x ∉ L → x ∉ L := fun _ _ h => h
      rw [List.map_cons, hfk]
      cases st with
      | none =>
        have : k = false := hk.symm
        subst this
        rw [scan_skip_none]
        exact next L hs2 hn none (by rw [hfk]; rfl)
      | some bh =>
        have : k = true := hk.symm
        subst this
        rw [scan_skip_some]
        exact next L hs2 hn (some bh) (by rw [hfk]; rfl)
/-- two rising lists with the same places are one -/
theorem rise_uniq : ∀ {L L' : List Pl}, L.Pairwise Pl.lt → L'.Pairwise Pl.lt → (∀ p, p ∈ L ↔ p ∈ L') → L = L'
  | [], [], _, _, _ => rfl
  | [], q :: L', _, _, h => by have := (h q).mpr (List.mem_cons_self ..); cases this
  | p :: L, [], _, _, h => by have := (h p).mp (List.mem_cons_self ..); cases this
  | p :: L, q :: L', h1, h2, h => by
    obtain ⟨a1, a2⟩ := List.pairwise_cons.mp h1
    obtain ⟨b1, b2⟩ := List.pairwise_cons.mp h2
    have e : p = q := by
      rcases List.mem_cons.mp ((h p).mp (List.mem_cons_self ..)) with e | hp
      · exact e
      · rcases List.mem_cons.mp ((h q).mpr (List.mem_cons_self ..)) with e | hq
        · exact e.symm
        · exact absurd (Pl.lt_trans (a1 q hq) (b1 p hp)) (Pl.lt_irrefl p)
    subst e
    congr 1
    refine rise_uniq a2 b2 fun x => ⟨fun hx => ?_, fun hx => ?_⟩
    · rcases List.mem_cons.mp ((h x).mp (List.mem_cons_of_mem _ hx)) with rfl | hx'
      · exact absurd (a1 _ hx) (Pl.lt_irrefl _)
      · exact hx'
    · rcases List.mem_cons.mp ((h x).mpr (List.mem_cons_of_mem _ hx)) with rfl | hx'
      · exact absurd (b1 _ hx) (Pl.lt_irrefl _)
      · exact hx'
theorem rise_sub {L L' : List Pl} (h1 : L.Pairwise Pl.lt) (h2 : L'.Pairwise Pl.lt) (h : ∀ p ∈ L, p ∈ L') : L.Sublist L' := by
  have e : L = L'.filter (fun p => decide (p ∈ L)) := rise_uniq h1 (h2.sublist List.filter_sublist) fun p => by
    rw [List.mem_filter, decide_eq_true_eq]
    exact ⟨fun hp => ⟨h p hp, hp⟩, fun hp => hp.2⟩
  rw [e]
  exact List.filter_sublist
/-- the truth at the last place up to one -/
def lastF (f : Pl → Bool) : Bool → List Pl → Pl → Bool
  | k, [], _ => k
  | k, q :: L, p => if q.le p then lastF f (f q) L p else k
theorem lastF_none {f : Pl → Bool} {k : Bool} {p : Pl} : ∀ {L : List Pl}, (∀ q ∈ L, p.lt q) → lastF f k L p = k
  | [], _ => rfl
  | q :: L, h => by rw [lastF, if_neg (Pl.not_le.mpr (h q (List.mem_cons_self ..)))]
theorem lastF_cases {f : Pl → Bool} {p : Pl} : ∀ {L : List Pl} {k : Bool}, L.Pairwise Pl.lt → ((∀ q ∈ L, p.lt q) ∧ lastF f k L p = k) ∨ ∃ q ∈ L, q.le p ∧ (∀ r ∈ L, r.le p → r.le q) ∧ lastF f k L p = f q
  | [], k, _ => .inl ⟨by simp, rfl⟩
  | q :: L, k, hp => by
    obtain ⟨h1, h2⟩ := List.pairwise_cons.mp hp
    by_cases h : q.le p
    · rw [lastF, if_pos h]
      right
      rcases lastF_cases (f := f) (p := p) (k := f q) h2 with ⟨g1, g2⟩ | ⟨x, g1, g2, g3, g4⟩
      · refine ⟨q, List.mem_cons_self .., h, fun r hr hrp => ?_, g2⟩
        rcases List.mem_cons.mp hr with rfl | hr
        · exact Pl.le_refl _
        · exact absurd (Pl.lt_le (g1 r hr) hrp) (Pl.lt_irrefl p)
      · refine ⟨x, List.mem_cons_of_mem _ g1, g2, fun r hr hrp => ?_, g4⟩
        rcases List.mem_cons.mp hr with rfl | hr
        · exact Pl.le_of_lt (h1 x g1)
        · exact g3 r hr hrp
    · left
      have h := Pl.not_le.mp h
      refine ⟨fun r hr => ?_, by rw [lastF, if_neg (Pl.not_le.mpr h)]⟩
      rcases List.mem_cons.mp hr with rfl | hr
      · exact h
      · exact Pl.lt_trans h (h1 r hr)
/-- a truth doesn't end just behind a moment -/
def noEnd (f : Pl → Bool) : Bool → List Pl → Prop
  | _, [] => True
  | k, q :: L => (q.s = 1 → k = true → f q = true) ∧ noEnd f (f q) L
theorem cntS_cons {s : Stt} {S : List Stt} {p : Pl} : cntS (s :: S) p = (covB s p).toNat + cntS S p := by
  unfold cntS
  rw [List.filter_cons]
  cases h : covB s p with
  | true => rw [if_pos rfl, List.length_cons, Nat.add_comm]; rfl
  | false => rw [if_neg (by simp)]; simp
theorem scan_ok {f : Pl → Bool} : ∀ {L : List Pl} {st : Option (Rat × Int)}, L.Pairwise Pl.lt → (∀ p ∈ L, p.s = 0 ∨ p.s = 1) → (∀ b h, st = some (b, h) → (h = 0 ∨ h = 1) ∧ ∀ p ∈ L, Pl.lt ⟨b, 1 - h⟩ p) → noEnd f st.isSome L →
    (∀ s ∈ scanB st (L.map fun p => (p, f p)), s.ok) ∧ (∀ s ∈ scanB st (L.map fun p => (p, f p)), (⟨s.b, 1 - s.h⟩ ∈ L ∨ st = some (s.b, s.h)) ∧ ∀ e, s.e = some e → ⟨e, 0⟩ ∈ L) ∧
      ∀ p, cntS (scanB st (L.map fun p => (p, f p))) p = (lastF f (match st with | none => false | some (b, h) => decide (Pl.le ⟨b, 1 - h⟩ p)) L p).toNat
  | [], none, _, _, _, _ => ⟨by simp [scanB], by simp [scanB], fun p => by simp [scanB, lastF, cntS]⟩
  | [], some (b, h), _, _, hst, _ => by
    refine ⟨fun s hs => ?_, fun s hs => ?_, fun p => ?_⟩
    · simp only [List.map_nil, scanB, List.mem_singleton] at hs
      subst hs
      exact ⟨(hst b h rfl).1, fun e he => by cases he⟩
    · simp only [List.map_nil, scanB, List.mem_singleton] at hs
      subst hs
      exact ⟨.inr rfl, fun e he => by cases he⟩
    · simp only [List.map_nil, scanB, lastF]
      rw [cntS_cons]
      simp [covB, cntS]
  | q :: L, none, hp, hs01, hst, hn => by
    obtain ⟨h1, h2⟩ := List.pairwise_cons.mp hp
    have h01 : ∀ p ∈ L, p.s = 0 ∨ p.s = 1 := fun p hp => hs01 p (List.mem_cons_of_mem _ hp)
    have hq01 := hs01 q (List.mem_cons_self ..)
    simp only [List.map_cons, scanB]
    cases hf : f q with
    | true =>
      have hq : (⟨q.m, 1 - (1 - q.s)⟩ : Pl) = q := Pl.ext' rfl (by show 1 - (1 - q.s) = q.s; omega)
      obtain ⟨g1, g2, g3⟩ := scan_ok (f := f) (L := L) (st := some (q.m, 1 - q.s)) h2 h01 (fun b h e => by
        cases e
        exact ⟨by omega, fun p hp => by rw [hq]; exact h1 p hp⟩) (by have := hn.2; rw [hf] at this; exact this)
      simp only [if_true]
      refine ⟨g1, fun s hs => ⟨?_, fun e he => List.mem_cons_of_mem _ ((g2 s hs).2 e he)⟩, fun p => ?_⟩
      · rcases (g2 s hs).1 with h | h
        · exact .inl (List.mem_cons_of_mem _ h)
        · simp only [Option.some.injEq, Prod.mk.injEq] at h
          obtain ⟨h5, h6⟩ := h
          have hq' : (⟨s.b, 1 - s.h⟩ : Pl) = q := Pl.ext' h5.symm (by show 1 - s.h = q.s; omega)
          rw [hq']
          exact .inl (List.mem_cons_self ..)
      · rw [g3 p]
        simp only [hq, lastF]
        by_cases h : q.le p
        · rw [if_pos h, decide_eq_true h, hf]
        · rw [if_neg h, decide_eq_false h, lastF_none fun r hr => Pl.lt_trans (Pl.not_le.mp h) (h1 r hr)]
    | false =>
      obtain ⟨g1, g2, g3⟩ := scan_ok (f := f) (L := L) (st := none) h2 h01 (fun b h e => by cases e) (by have := hn.2; rw [hf] at this; exact this)
      simp only [Bool.false_eq_true, if_false]
      refine ⟨g1, fun s hs => ⟨?_, fun e he => List.mem_cons_of_mem _ ((g2 s hs).2 e he)⟩, fun p => ?_⟩
      · rcases (g2 s hs).1 with h | h
        · exact .inl (List.mem_cons_of_mem _ h)
        · cases h
      · rw [g3 p]
        simp only [lastF]
        by_cases h : q.le p
        · rw [if_pos h, hf]
        · rw [if_neg h, lastF_none fun r hr => Pl.lt_trans (Pl.not_le.mp h) (h1 r hr)]
  | q :: L, some (b, h), hp, hs01, hst, hn => by
    obtain ⟨h1, h2⟩ := List.pairwise_cons.mp hp
    have h01 : ∀ p ∈ L, p.s = 0 ∨ p.s = 1 := fun p hp => hs01 p (List.mem_cons_of_mem _ hp)
    have hq01 := hs01 q (List.mem_cons_self ..)
    obtain ⟨hh, hb⟩ := hst b h rfl
    have hbq := hb q (List.mem_cons_self ..)
    simp only [List.map_cons, scanB]
    cases hf : f q with
    | false =>
      have hq0 : q.s = 0 := by
        rcases hq01 with h | h
        · exact h
        · have := hn.1 h rfl; rw [hf] at this; cases this
      have hq : (⟨q.m, 0⟩ : Pl) = q := Pl.ext' rfl hq0.symm
      obtain ⟨g1, g2, g3⟩ := scan_ok (f := f) (L := L) (st := none) h2 h01 (fun b h e => by cases e) (by have := hn.2; rw [hf] at this; exact this)
      simp only [if_true]
      refine ⟨fun s hs => ?_, fun s hs => ?_, fun p => ?_⟩
      · rcases List.mem_cons.mp hs with rfl | hs
        · refine ⟨hh, fun e he => ?_⟩
          cases he
          rw [← hq] at hbq
          unfold Pl.lt at hbq
          simp only at hbq ⊢
          rcases hbq with h | ⟨_, h⟩
          · exact h
          · omega
        · exact g1 s hs
      · rcases List.mem_cons.mp hs with rfl | hs
        · exact ⟨.inr rfl, fun e he => by cases he; rw [hq]; exact List.mem_cons_self ..⟩
        · refine ⟨?_, fun e he => List.mem_cons_of_mem _ ((g2 s hs).2 e he)⟩
          rcases (g2 s hs).1 with h | h
          · exact .inl (List.mem_cons_of_mem _ h)
          · cases h
      · rw [cntS_cons, g3 p]
        simp only [lastF, covB, hq]
        by_cases h : q.le p
        · rw [if_pos h, hf, decide_eq_false (Pl.not_lt.mpr h)]
          simp
        · rw [if_neg h, decide_eq_true (Pl.not_le.mp h), lastF_none fun r hr => Pl.lt_trans (Pl.not_le.mp h) (h1 r hr)]
          simp
    | true =>
      obtain ⟨g1, g2, g3⟩ := scan_ok (f := f) (L := L) (st := some (b, h)) h2 h01 (fun b' h' e => by
        cases e
        exact ⟨hh, fun p hp => hb p (List.mem_cons_of_mem _ hp)⟩) (by have := hn.2; rw [hf] at this; exact this)
      simp only [Bool.true_eq_false, if_false]
      refine ⟨g1, fun s hs => ⟨?_, fun e he => List.mem_cons_of_mem _ ((g2 s hs).2 e he)⟩, fun p => ?_⟩
      · rcases (g2 s hs).1 with h | h
        · exact .inl (List.mem_cons_of_mem _ h)
        · exact .inr h
      · rw [g3 p]
        simp only [lastF]
        by_cases h' : q.le p
        · rw [if_pos h', hf, decide_eq_true (Pl.le_trans (Pl.le_of_lt hbq) h')]
        · rw [if_neg h', lastF_none fun r hr => Pl.lt_trans (Pl.not_le.mp h') (h1 r hr)]
/-! ### a set of moments, told -/
def insP (p : Pl) : List Pl → List Pl
  | [] => [p]
  | q :: L => if p.lt q then p :: q :: L else if p = q then q :: L else q :: insP p L
theorem mem_insP {x p : Pl} : ∀ {L : List Pl}, x ∈ insP p L ↔ x = p ∨ x ∈ L
  | [] => by simp [insP]
  | q :: L => by
    rw [insP]
    split
    · rw [List.mem_cons]
    · split
      · rename_i e
        subst e
        rw [List.mem_cons]
        constructor
        · exact fun h => .inr h
        · rintro (h | h)
          · exact .inl h
          · exact h
      · rw [List.mem_cons, mem_insP (L := L), List.mem_cons]
        constructor
        · rintro (h | h | h)
          · exact .inr (.inl h)
          · exact .inl h
          · exact .inr (.inr h)
        · rintro (h | h | h)
          · exact .inr (.inl h)
          · exact .inl h
          · exact .inr (.inr h)
theorem rise_insP {p : Pl} : ∀ {L : List Pl}, L.Pairwise Pl.lt → (insP p L).Pairwise Pl.lt
  | [], _ => by simp [insP]
  | q :: L, h => by
    obtain ⟨h1, h2⟩ := List.pairwise_cons.mp h
    rw [insP]
    split
    · rename_i hpq
      refine List.pairwise_cons.mpr ⟨fun x hx => ?_, h⟩
      rcases List.mem_cons.mp hx with rfl | hx
      · exact hpq
      · exact Pl.lt_trans hpq (h1 x hx)
    · split
      · exact h
      · rename_i h3 h4
        refine List.pairwise_cons.mpr ⟨fun x hx => ?_, rise_insP h2⟩
        rcases mem_insP.mp hx with rfl | hx
        · rcases Pl.lt_or (p := x) (q := q) with g | g | g
          · exact absurd g h3
          · exact absurd g h4
          · exact g
        · exact h1 x hx
def plS : List Stt → List Pl
  | [] => []
  | s :: S => insP ⟨s.b, 1 - s.h⟩ (match s.e with | none => plS S | some e => insP ⟨e, 0⟩ (plS S))
theorem isPl_cons {s : Stt} {S : List Stt} {p : Pl} : isPl (s :: S) p ↔ p = ⟨s.b, 1 - s.h⟩ ∨ (∃ e, s.e = some e ∧ p = ⟨e, 0⟩) ∨ isPl S p := by
  unfold isPl
  constructor
  · rintro ⟨x, hx, h⟩
    rcases List.mem_cons.mp hx with rfl | hx
    · rcases h with h | h
      · exact .inl h
      · exact .inr (.inl h)
    · exact .inr (.inr ⟨x, hx, h⟩)
  · rintro (h | h | ⟨x, hx, h⟩)
    · exact ⟨s, List.mem_cons_self .., .inl h⟩
    · exact ⟨s, List.mem_cons_self .., .inr h⟩
    · exact ⟨x, List.mem_cons_of_mem _ hx, h⟩
theorem mem_plS {p : Pl} : ∀ {S : List Stt}, p ∈ plS S ↔ isPl S p
  | [] => by simp [plS, isPl]
  | s :: S => by
    rw [plS, mem_insP, isPl_cons]
    cases he : s.e with
    | none => simp only [mem_plS (S := S)]; simp
    | some e => simp only [mem_insP, mem_plS (S := S)]; simp
theorem rise_plS : ∀ {S : List Stt}, (plS S).Pairwise Pl.lt
  | [] => by simp [plS]
  | s :: S => by
    rw [plS]
    cases he : s.e with
    | none => exact rise_insP rise_plS
    | some e => exact rise_insP (rise_insP rise_plS)
def atL (S : List Stt) (n : Nat) (p : Pl) : Bool := decide (n ≤ cntS S p)
/-- the set of the moments at which there are n or more -/
def told (S : List Stt) (n : Nat) : List Stt := scanB none ((plS S).map fun p => (p, atL S n p))
theorem atL_same {S : List Stt} {n : Nat} {p q : Pl} (hs : ∀ s ∈ S, s.ok) (hpq : p.le q) (h : ∀ r, isPl S r → ¬ (p.lt r ∧ r.le q)) : atL S n p = atL S n q := by
  unfold atL
  rw [cnt_same hs hpq h]
theorem told_any {S : List Stt} {n : Nat} {L : List Pl} (hs : ∀ s ∈ S, s.ok) (hn : 1 ≤ n) (hL : L.Pairwise Pl.lt) (h : ∀ p, isPl S p → p ∈ L) : scanB none (L.map fun p => (p, atL S n p)) = told S n := by
  refine scan_eq (k := false) hL (rise_sub rise_plS hL fun p hp => h p (mem_plS.mp hp)) (fun p hp hpn q hq => ?_) (fun p hh hpn => ?_) rfl
  · refine (atL_same hs (Pl.le_of_lt hq.2.1) fun r hr hx => ?_).symm
    by_cases e : r = p
    · subst e; exact hpn (mem_plS.mpr hr)
    · have hrp : r.lt p := by
        rcases Pl.lt_or (p := r) (q := p) with g | g | g
        · exact g
        · exact absurd g e
        · exact absurd (Pl.lt_le g hx.2) (Pl.lt_irrefl _)
      exact Pl.lt_irrefl _ (Pl.lt_le hx.1 (hq.2.2 r (h r hr) hrp))
  · unfold atL
    rw [cnt_before (S := S) (p := p) fun r hr => ?_]
    · exact decide_eq_false (by omega)
    · have hr' := h r hr
      cases L with
      | nil => cases hr'
      | cons x L =>
        simp only [List.head?_cons, Option.some.injEq] at hh
        subst hh
        rcases List.mem_cons.mp hr' with rfl | hr'
        · exact absurd (mem_plS.mpr hr) hpn
        · exact (List.pairwise_cons.mp hL).1 r hr'
theorem cnt_le {S : List Stt} {p q : Pl} (h : ∀ s ∈ S, covB s p = true → covB s q = true) : cntS S p ≤ cntS S q := by
  induction S with
  | nil => exact Nat.le_refl _
  | cons s S ih =>
    rw [cntS_cons, cntS_cons]
    have := ih fun s hs => h s (List.mem_cons_of_mem _ hs)
    have h1 := h s (List.mem_cons_self ..)
    cases hp : covB s p with
    | true => rw [h1 hp]; omega
    | false => simp; omega
theorem noEnd_aux {S : List Stt} {n : Nat} : ∀ {L : List Pl} {x : Pl}, (x :: L).Pairwise Pl.lt → (∀ r, isPl S r → x.lt r → r ∈ L) → noEnd (atL S n) (atL S n x) L
  | [], _, _, _ => trivial
  | q :: L, x, hp, h => by
    obtain ⟨h1, h2⟩ := List.pairwise_cons.mp hp
    obtain ⟨h3, h4⟩ := List.pairwise_cons.mp h2
    have hxq := h1 q (List.mem_cons_self ..)
    refine ⟨fun hq1 hx => ?_, noEnd_aux h2 fun r hr hqr => ?_⟩
    · unfold atL at hx ⊢
      rw [decide_eq_true_eq] at hx ⊢
      refine Nat.le_trans hx (cnt_le fun s hs hc => ?_)
      unfold covB at hc ⊢
      rw [Bool.and_eq_true, decide_eq_true_eq] at hc ⊢
      refine ⟨Pl.le_trans hc.1 (Pl.le_of_lt hxq), ?_⟩
      cases he : s.e with
      | none => rfl
      | some e =>
        have hc2 := hc.2
        rw [he] at hc2
        simp only [decide_eq_true_eq] at hc2 ⊢
        have hr := h ⟨e, 0⟩ ⟨s, hs, .inr ⟨e, he, rfl⟩⟩ hc2
        rcases List.mem_cons.mp hr with e2 | hr
        · rw [← e2] at hq1; cases hq1
        · exact h3 _ hr
    · rcases List.mem_cons.mp (h r hr (Pl.lt_trans hxq hqr)) with rfl | hr'
      · exact absurd hqr (Pl.lt_irrefl _)
      · exact hr'
theorem told_ok {S : List Stt} {n : Nat} (hs : ∀ s ∈ S, s.ok) (hn : 1 ≤ n) : (∀ s ∈ told S n, s.ok) ∧ (∀ p, isPl (told S n) p → isPl S p) ∧ ∀ p, cntS (told S n) p = (atL S n p).toNat := by
  have h01 : ∀ p ∈ plS S, p.s = 0 ∨ p.s = 1 := fun p hp => by
    obtain ⟨s, hm, h⟩ := mem_plS.mp hp
    rcases h with rfl | ⟨e, _, rfl⟩
    · have := (hs s hm).1
      show 1 - s.h = 0 ∨ 1 - s.h = 1
      omega
    · exact .inl rfl
  have hne : noEnd (atL S n) false (plS S) := by
    have hr := rise_plS (S := S)
    have hm : ∀ r, isPl S r → r ∈ plS S := fun r hr => mem_plS.mpr hr
    revert hr hm
    generalize plS S = L
    intro hr hm
    cases L with
    | nil => trivial
    | cons q L =>
      refine ⟨fun _ h => (by cases h), noEnd_aux hr fun r hp hqr => ?_⟩
      rcases List.mem_cons.mp (hm r hp) with rfl | h
      · exact absurd hqr (Pl.lt_irrefl _)
      · exact h
  obtain ⟨g1, g2, g3⟩ := scan_ok (f := atL S n) (L := plS S) (st := none) rise_plS h01 (fun b h e => by cases e) hne
  refine ⟨g1, fun p hp => ?_, fun p => ?_⟩
  · obtain ⟨s, hm, h⟩ := hp
    rcases h with rfl | ⟨e, he, rfl⟩
    · rcases (g2 s hm).1 with h | h
      · exact mem_plS.mp h
      · cases h
    · exact mem_plS.mp ((g2 s hm).2 e he)
  · unfold told
    rw [g3 p]
    congr 1
    simp only
    rcases lastF_cases (f := atL S n) (p := p) (k := false) (rise_plS (S := S)) with ⟨h1, h2⟩ | ⟨q, h1, h2, h3, h4⟩
    · rw [h2]
      unfold atL
      rw [cnt_before fun r hr => h1 r (mem_plS.mpr hr)]
      exact (decide_eq_false (by omega)).symm
    · rw [h4]
      exact atL_same hs h2 fun r hr hx => Pl.lt_irrefl _ (Pl.lt_le hx.1 (h3 r (mem_plS.mpr hr) hx.2))
theorem isPl_append {S S' : List Stt} {p : Pl} : isPl (S ++ S') p ↔ isPl S p ∨ isPl S' p := by
  unfold isPl
  constructor
  · rintro ⟨s, hs, h⟩
    rcases List.mem_append.mp hs with hs | hs
    · exact .inl ⟨s, hs, h⟩
    · exact .inr ⟨s, hs, h⟩
  · rintro (⟨s, hs, h⟩ | ⟨s, hs, h⟩)
    · exact ⟨s, List.mem_append_left _ hs, h⟩
    · exact ⟨s, List.mem_append_right _ hs, h⟩
/-- what is told hangs on the moments alone -/
theorem told_congr {S S' : List Stt} {n n' : Nat} (hs : ∀ s ∈ S, s.ok) (hs' : ∀ s ∈ S', s.ok) (hn : 1 ≤ n) (hn' : 1 ≤ n') (h : ∀ p, atL S n p = atL S' n' p) : told S n = told S' n' := by
  have e1 := told_any (L := plS (S ++ S')) hs hn rise_plS fun p hp => mem_plS.mpr (isPl_append.mpr (.inl hp))
  have e2 := told_any (L := plS (S ++ S')) hs' hn' rise_plS fun p hp => mem_plS.mpr (isPl_append.mpr (.inr hp))
  rw [← e1, ← e2]
  congr 1
  exact List.map_congr_left fun p _ => by rw [h p]
theorem atL_told {S : List Stt} {n : Nat} (hs : ∀ s ∈ S, s.ok) (hn : 1 ≤ n) (p : Pl) : atL (told S n) 1 p = atL S n p := by
  have h : atL (told S n) 1 p = decide (1 ≤ (atL S n p).toNat) := by
    show decide (1 ≤ cntS (told S n) p) = _
    rw [(told_ok hs hn).2.2 p]
  rw [h]
  cases atL S n p <;> rfl
theorem told_told {S : List Stt} {n : Nat} (hs : ∀ s ∈ S, s.ok) (hn : 1 ≤ n) : told (told S n) 1 = told S n :=
  told_congr (told_ok hs hn).1 hs (Nat.le_refl _) hn (atL_told hs hn)
theorem cnt_perm {S S' : List Stt} (h : S.Perm S') (p : Pl) : cntS S p = cntS S' p := (h.filter _).length_eq
theorem told_perm {S S' : List Stt} {n : Nat} (hs : ∀ s ∈ S, s.ok) (hn : 1 ≤ n) (h : S.Perm S') : told S n = told S' n :=
  told_congr hs (fun s hm => hs s (h.mem_iff.mpr hm)) hn hn fun p => by unfold atL; rw [cnt_perm h p]
theorem cntS_append {S S' : List Stt} {p : Pl} : cntS (S ++ S') p = cntS S p + cntS S' p := by
  unfold cntS
  rw [List.filter_append, List.length_append]
/-- in how many of some sets a place is -/
def cntSets (Ss : List (List Stt)) (p : Pl) : Nat := (Ss.filter fun S => atL S 1 p).length
def allOf (Ss : List (List Stt)) : List Stt := (Ss.map fun S => told S 1).flatten
theorem cnt_all {p : Pl} : ∀ {Ss : List (List Stt)}, (∀ S ∈ Ss, ∀ s ∈ S, s.ok) → cntS (allOf Ss) p = cntSets Ss p
  | [], _ => rfl
  | S :: Ss, h => by
    have ih := cnt_all (p := p) (Ss := Ss) fun T hT => h T (List.mem_cons_of_mem _ hT)
    have hS := h S (List.mem_cons_self ..)
    unfold allOf cntSets at ih ⊢
    rw [List.map_cons, List.flatten_cons, cntS_append, ih, (told_ok hS (Nat.le_refl _)).2.2 p, List.filter_cons]
    cases atL S 1 p with
    | true => rw [if_pos rfl, List.length_cons]; show 1 + _ = _; omega
    | false => rw [if_neg (by simp)]; show 0 + _ = _; omega
theorem all_ok {Ss : List (List Stt)} (h : ∀ S ∈ Ss, ∀ s ∈ S, s.ok) : ∀ s ∈ allOf Ss, s.ok := by
  intro s hs
  unfold allOf at hs
  obtain ⟨T, hT, hsT⟩ := List.mem_flatten.mp hs
  obtain ⟨S, hS, rfl⟩ := List.mem_map.mp hT
  exact (told_ok (h S hS) (Nat.le_refl _)).1 s hsT
theorem all_pl {Ss : List (List Stt)} (h : ∀ S ∈ Ss, ∀ s ∈ S, s.ok) {p : Pl} (hp : isPl (allOf Ss) p) : ∃ S ∈ Ss, isPl S p := by
  obtain ⟨s, hs, hx⟩ := hp
  unfold allOf at hs
  obtain ⟨T, hT, hsT⟩ := List.mem_flatten.mp hs
  obtain ⟨S, hS, rfl⟩ := List.mem_map.mp hT
  exact ⟨S, hS, (told_ok (h S hS) (Nat.le_refl _)).2.1 p ⟨s, hsT, hx⟩⟩
/-! ### stretches as data -/
open PySem PySem.Spec PyProof.Rows L2
def eD : Option Rat → PyData
  | none => .none
  | some e => F e
def StD (s : Stt) : PyData := .tuple [F s.b, .int s.h, eD s.e]
def RD (x : Bool × Stt) : PyData := if x.1 then .list [F x.2.b, .int x.2.h, eD x.2.e] else StD x.2
/-- stretches of some size, handed as they may be -/
structure Hd (n : Nat) (d : PyData) (S : List Stt) : Prop where
  rep : ∃ xs : List (Bool × Stt), xs.map Prod.snd = S ∧ (d = .list (xs.map RD) ∨ d = .tuple (xs.map RD))
  sz : ∀ s ∈ S, Sz n s.b ∧ ∀ e, s.e = some e → Sz n e
  ok : ∀ s ∈ S, s.ok
def StO (D M : Nat) (s : Stt) : Prop := Ov D M s.b ∧ ∀ e, s.e = some e → Ov D M e
def StZ (n : Nat) (s : Stt) : Prop := Sz n s.b ∧ ∀ e, s.e = some e → Sz n e
theorem nc_eD {n : Nat} {e : Option Rat} (h : ∀ x, e = some x → Sz n x) (hn : n ≤ 1900) : Nc 1 (2 * n + 16) (eD e) := by
  cases e with
  | none => exact nc_none.mono (by decide) (by omega)
  | some e => exact (nc_F (h e rfl) hn).mono (by decide) (by omega)
theorem nc_ST {n : Nat} {s : Stt} (h : StZ n s) (hs : s.ok) (hn : n ≤ 1900) : Nc 2 (4 * n + 60) (StD s) := by
  have h3 := hs.1
  exact (nc_tuple (ncl_cons (nc_F h.1 hn) (ncl_cons (nc_int (m := 1) (i := s.h) (by omega) (by decide)) (ncl_cons (nc_eD h.2 hn) ncl_nil)))).mono (by decide) (by omega)
theorem wc_neNil {ds : List PyData} {k n : Nat} {P : Bool → Prop} (h : Nc k n (.list ds)) (hk : k ≤ 60) (q : P (!ds.isEmpty)) : wP .ne (.list ds) (.list []) P := by
  refine ⟨_, ?_, q⟩
  show (eqD (.list ds) (.list [])).map (!·) = _
  unfold eqD
  simp only
  rw [nc_fit h hk, show fit (.list []) = true from rfl]
  cases ds <;> rfl
theorem wc_eqNil {ds : List PyData} {k n : Nat} {P : Bool → Prop} (h : Nc k n (.list ds)) (hk : k ≤ 60) (q : P ds.isEmpty) : wP .eq (.list ds) (.list []) P := by
  refine ⟨_, ?_, q⟩
  show eqD (.list ds) (.list []) = _
  unfold eqD
  simp only
  rw [nc_fit h hk, show fit (.list []) = true from rfl]
  cases ds <;> rfl
theorem StO.mono {D M N : Nat} {s : Stt} (h : StO D M s) (l : M ≤ N) : StO D N s := ⟨h.1.mono l, fun e he => (h.2 e he).mono l⟩
theorem StO.z {D M n : Nat} {s : Stt} (h : StO D M s) (hD : 0 < D) (h1 : M * D < 2 ^ n) (h2 : D < 2 ^ n) : StZ n s := ⟨h.1.sz hD h1 h2, fun e he => (h.2 e he).sz hD h1 h2⟩
theorem ncl_ST {n N : Nat} {S : List Stt} (h : ∀ s ∈ S, s.ok ∧ StZ n s) (hn : n ≤ 1900) (hl : S.length ≤ N) : NcL 2 ((4 * n + 60 + 2) * N) (S.map StD) := ncl_map (fun s hs => nc_ST (h s hs).2 (h s hs).1 hn) hl
theorem cov_iff {s : Stt} {m : Rat} {side : Int} (h0 : 0 ≤ side) : covB s ⟨m, side⟩ = true ↔ (∀ e, s.e = some e → m < e) ∧ (s.b < m ∨ s.b = m ∧ 0 < s.h + side) := by
  obtain ⟨b, h, e⟩ := s
  have hb : Pl.le ⟨b, 1 - h⟩ ⟨m, side⟩ ↔ (b < m ∨ b = m ∧ 0 < h + side) := by
    unfold Pl.le
    simp only
    constructor
    · rintro (h1 | ⟨h1, h2⟩)
      · exact .inl h1
      · exact .inr ⟨h1, by omega⟩
    · rintro (h1 | ⟨h1, h2⟩)
      · exact .inl h1
      · exact .inr ⟨h1, by omega⟩
  have he : ∀ e : Rat, Pl.lt ⟨m, side⟩ ⟨e, 0⟩ ↔ m < e := fun e => by
    unfold Pl.lt
    simp only
    constructor
    · rintro (h1 | ⟨h1, h2⟩)
      · exact h1
      · omega
    · exact fun h => .inl h
  unfold covB
  cases e with
  | none =>
    simp only [Bool.and_true, decide_eq_true_eq, hb]
    constructor
    · exact fun h => ⟨fun e he => (by cases he), h⟩
    · exact fun h => h.2
  | some e =>
    simp only [Bool.and_eq_true, decide_eq_true_eq, hb, he]
    constructor
    · exact fun h => ⟨fun e' he' => (by cases he'; exact h.2), h.1⟩
    · exact fun h => ⟨h.2, h.1 e rfl⟩
theorem fr_eD {n : Nat} {q : Rat} (h : Sz n q) : Fr n (eD (some q)) q := ⟨rfl, h⟩
end Sk

/-! SkT: rows by places, put together in turn, counted; whiles over typed states -/
namespace Sk
open PySem PySem.Spec PyProof.Rows L2
section
variable {C : CallF} {r : Rho} {st : Mem} {Q : WR}
structure turnW (I : Rho → Mem → Prop) (Q : WR) (o : Out) (r : Rho) (st : Mem) : Prop where of ::
  go : match o with
    | .nx => I r st
    | .ct => I r st
    | .brk => Q .nx r st
    | .ret w => Q (.ret w) r st
theorem tw_nx {I : Rho → Mem → Prop} (h : I r st) : turnW I Q .nx r st := ⟨h⟩
theorem tw_ct {I : Rho → Mem → Prop} (h : I r st) : turnW I Q .ct r st := ⟨h⟩
theorem tw_brk {I : Rho → Mem → Prop} (h : Q .nx r st) : turnW I Q .brk r st := ⟨h⟩
theorem tw_ret {I : Rho → Mem → Prop} {w : W} (h : Q (.ret w) r st) : turnW I Q (.ret w) r st := ⟨h⟩
/-- a while over typed states, by a measure of them -/
theorem ws_whlT {α : Type} {e : Ex} {bd : Sxs} (J : α → Rho → Mem → Prop) (μ : α → Nat) (a0 : α) (h0 : J a0 r st)
    (hs : ∀ a r st, J a r st → wE C e r st fun x s1 => Br x (wSs C bd r s1 (turnW (fun r1 s2 => ∃ a', μ a' < μ a ∧ J a' r1 s2) Q)) (Q .nx r s1)) : wS C (.whl e bd) r st Q := by
  suffices h : ∀ n a r st, μ a < n → J a r st → wp (whl (fun r st => (ev C e r st).bind fun (x, s1) => match x with
      | .val (.bool k) => some (k, s1)
      | _ => none) (fun r st => exs C bd r st) r st) fun p => Q p.1 p.2.1 p.2.2 by
    obtain ⟨p, e, q⟩ := h _ a0 r st (Nat.lt_succ_self _) h0
    exact ⟨p, by simp only [ex]; exact e, q⟩
  intro n
  induction n with
  | zero => intro a r st h; exact absurd h (Nat.not_lt_zero _)
  | succ n ih =>
    intro a r st hm hI
    rw [whl_eq]
    obtain ⟨⟨x, s1⟩, e1, q⟩ := hs a r st hI
    match x, q with
    | .val (.bool false), q => exact ⟨(.nx, r, s1), by simp only [e1, Option.bind_some]; rfl, q.2 rfl⟩
    | .val (.bool true), q =>
      obtain ⟨⟨o, r1, s2⟩, e2, q2⟩ := q.1 rfl
      have q2 := q2.go
      cases o with
      | nx =>
        obtain ⟨a', hlt, hJ⟩ := q2
        obtain ⟨p, e3, q3⟩ := ih a' r1 s2 (by omega) hJ
        exact ⟨p, by simp only [e1, e2, Option.bind_some, if_true]; exact e3, q3⟩
      | ct =>
        obtain ⟨a', hlt, hJ⟩ := q2
        obtain ⟨p, e3, q3⟩ := ih a' r1 s2 (by omega) hJ
        exact ⟨p, by simp only [e1, e2, Option.bind_some, if_true]; exact e3, q3⟩
      | brk => exact ⟨(.nx, r1, s2), by simp only [e1, e2, Option.bind_some, if_true], q2⟩
      | ret w => exact ⟨(.ret w, r1, s2), by simp only [e1, e2, Option.bind_some, if_true], q2⟩
end
structure Rw where
  p : Pl
  d : Int
def RwD (r : Rw) : PyData := .tuple [F r.p.m, .int r.p.s, .int r.d]
def mrg : List Rw → List Rw → List Rw
  | [], ys => ys
  | x :: xs, ys => ys.takeWhile (fun y => decide (y.p.lt x.p)) ++ x :: mrg xs (ys.dropWhile (fun y => decide (y.p.lt x.p)))
abbrev Rise (l : List Rw) : Prop := l.Pairwise (fun a b => a.p.le b.p)
theorem mrg_perm : ∀ {xs ys : List Rw}, (mrg xs ys).Perm (xs ++ ys)
  | [], ys => .refl _
  | x :: xs, ys => by
    rw [mrg]
    refine List.perm_middle.trans ?_
    rw [List.cons_append]
    refine List.Perm.cons _ ?_
    refine (List.Perm.append_left _ mrg_perm).trans ?_
    refine (List.perm_append_comm_assoc ..).trans ?_
    rw [List.takeWhile_append_dropWhile]
theorem mem_mrg {r : Rw} {xs ys : List Rw} : r ∈ mrg xs ys ↔ r ∈ xs ∨ r ∈ ys := by rw [mrg_perm.mem_iff, List.mem_append]
theorem drop_ge {p : Pl} : ∀ {ys : List Rw}, Rise ys → ∀ r ∈ ys.dropWhile (fun y => decide (y.p.lt p)), p.le r.p
  | [], _, r, h => by cases h
  | y :: ys, hr, r, h => by
    obtain ⟨h1, h2⟩ := List.pairwise_cons.mp hr
    by_cases hy : y.p.lt p
    · rw [List.dropWhile_cons_of_pos (by simpa using hy)] at h
      exact drop_ge h2 r h
    · rw [List.dropWhile_cons_of_neg (by simpa using hy)] at h
      have := Pl.not_lt.mp hy
      rcases List.mem_cons.mp h with rfl | h
      · exact this
      · exact Pl.le_trans this (h1 r h)
theorem take_lt {p : Pl} : ∀ {ys : List Rw}, ∀ r ∈ ys.takeWhile (fun y => decide (y.p.lt p)), r.p.lt p
  | [], r, h => by cases h
  | y :: ys, r, h => by
    by_cases hy : y.p.lt p
    · rw [List.takeWhile_cons_of_pos (by simpa using hy)] at h
      rcases List.mem_cons.mp h with rfl | h
      · exact hy
      · exact take_lt r h
    · rw [List.takeWhile_cons_of_neg (by simpa using hy)] at h
      cases h
theorem mrg_rise : ∀ {xs ys : List Rw}, Rise xs → Rise ys → Rise (mrg xs ys)
  | [], ys, _, h => h
  | x :: xs, ys, hx, hy => by
    obtain ⟨h1, h2⟩ := List.pairwise_cons.mp hx
    have hd : Rise (ys.dropWhile (fun y => decide (y.p.lt x.p))) := hy.sublist (List.dropWhile_sublist _)
    have ih := mrg_rise h2 hd
    have hge := drop_ge (p := x.p) hy
    have hx2 : ∀ r ∈ mrg xs (ys.dropWhile (fun y => decide (y.p.lt x.p))), x.p.le r.p := fun r hr => by
      rcases mem_mrg.mp hr with hr | hr
      · exact h1 r hr
      · exact hge r hr
    rw [mrg]
    refine List.pairwise_append.mpr ⟨hy.sublist (List.takeWhile_sublist _), List.pairwise_cons.mpr ⟨hx2, ih⟩, fun a ha b hb => ?_⟩
    have := take_lt a ha
    rcases List.mem_cons.mp hb with rfl | hb
    · exact Pl.le_of_lt this
    · exact Pl.le_trans (Pl.le_of_lt this) (hx2 b hb)
theorem mrg_len {xs ys : List Rw} : (mrg xs ys).length = xs.length + ys.length := by rw [mrg_perm.length_eq, List.length_append]
/-! ### counts -/
def sumLe (rs : List Rw) (p : Pl) : Int := ((rs.filter fun r => decide (r.p.le p)).map Rw.d).sum
theorem sumLe_append {rs ts : List Rw} {p : Pl} : sumLe (rs ++ ts) p = sumLe rs p + sumLe ts p := by
  unfold sumLe
  rw [List.filter_append, List.map_append, List.sum_append]
theorem sumLe_one {r : Rw} {p : Pl} : sumLe [r] p = if r.p.le p then r.d else 0 := by
  unfold sumLe
  by_cases h : r.p.le p <;> simp [h]
theorem sumLe_cons {r : Rw} {rs : List Rw} {p : Pl} : sumLe (r :: rs) p = (if r.p.le p then r.d else 0) + sumLe rs p := by
  rw [← sumLe_one, ← sumLe_append]; rfl
theorem sumLe_all {rs : List Rw} {p : Pl} (h : ∀ r ∈ rs, r.p.le p) : sumLe rs p = (rs.map Rw.d).sum := by
  unfold sumLe
  rw [List.filter_eq_self.mpr (fun r hr => decide_eq_true (h r hr))]
theorem perm_sum {xs ys : List Int} (h : xs.Perm ys) : xs.sum = ys.sum := by
  induction h with
  | nil => rfl
  | cons x _ ih => rw [List.sum_cons, List.sum_cons, ih]
  | swap x y l => simp only [List.sum_cons]; omega
  | trans _ _ h1 h2 => exact h1.trans h2
theorem sumLe_perm {rs ts : List Rw} {p : Pl} (h : rs.Perm ts) : sumLe rs p = sumLe ts p := by
  unfold sumLe
  exact perm_sum ((h.filter _).map _)
def turnsL : List Stt → List Rw
  | [] => []
  | s :: S => ⟨⟨s.b, 1 - s.h⟩, 1⟩ :: (match s.e with | none => turnsL S | some e => ⟨⟨e, 0⟩, -1⟩ :: turnsL S)
theorem sum_turns {p : Pl} : ∀ {S : List Stt}, (∀ s ∈ S, s.ok) → sumLe (turnsL S) p = (cntS S p : Nat)
  | [], _ => rfl
  | s :: S, h => by
    have ih := sum_turns (p := p) (S := S) fun t ht => h t (List.mem_cons_of_mem _ ht)
    have hs := h s (List.mem_cons_self ..)
    rw [turnsL, sumLe_cons, cntS_cons]
    unfold covB
    cases he : s.e with
    | none =>
      simp only [ih]
      by_cases hb : Pl.le ⟨s.b, 1 - s.h⟩ p <;> simp [hb]
    | some e =>
      simp only [sumLe_cons, ih]
      have hbe : Pl.lt ⟨s.b, 1 - s.h⟩ ⟨e, 0⟩ := .inl (hs.2 e he)
      by_cases hb : Pl.le ⟨s.b, 1 - s.h⟩ p
      · by_cases hp : Pl.lt p ⟨e, 0⟩
        · have : ¬ Pl.le ⟨e, 0⟩ p := Pl.not_le.mpr hp
          simp [hb, hp, this]
        · have := Pl.not_lt.mp hp
          simp [hb, hp, this]
          omega
      · have : ¬ Pl.le ⟨e, 0⟩ p := fun g => hb (Pl.le_of_lt (Pl.lt_le hbe g))
        simp [hb, this]
theorem turns_pl {p : Pl} : ∀ {S : List Stt}, (∃ r ∈ turnsL S, r.p = p) ↔ isPl S p
  | [] => by simp [turnsL, isPl]
  | s :: S => by
    rw [isPl_cons, turnsL, ← turns_pl (S := S)]
    cases he : s.e with
    | none =>
      simp only [List.mem_cons, exists_eq_or_imp, reduceCtorEq, false_and, exists_false, false_or]
      rw [eq_comm]
    | some e =>
      simp only [List.mem_cons, exists_eq_or_imp, Option.some.injEq, exists_eq_left']
      rw [eq_comm (a := p), eq_comm (a := p)]
theorem turns_sz {N : Nat} : ∀ {S : List Stt}, (∀ s ∈ S, StZ N s) → ∀ r ∈ turnsL S, Sz N r.p.m
  | [], _, r, h => by cases h
  | s :: S, hS, r, h => by
    have hs := hS s (List.mem_cons_self ..)
    have ih := turns_sz fun t ht => hS t (List.mem_cons_of_mem _ ht)
    rw [turnsL] at h
    cases he : s.e with
    | none =>
      rw [he] at h
      rcases List.mem_cons.mp h with rfl | h
      · exact hs.1
      · exact ih r h
    | some e =>
      rw [he] at h
      simp only [List.mem_cons] at h
      rcases h with rfl | rfl | h
      · exact hs.1
      · exact hs.2 e he
      · exact ih r h
theorem turns_s {S : List Stt} (h : ∀ s ∈ S, s.ok) : ∀ r ∈ turnsL S, r.p.s = 0 ∨ r.p.s = 1 := by
  intro r hr
  obtain ⟨s, hs, h2⟩ := turns_pl.mp ⟨r, hr, rfl⟩
  have := (h s hs).1
  rcases h2 with h2 | ⟨e, _, h2⟩ <;> rw [h2] <;> simp <;> omega
theorem turns_len : ∀ {S : List Stt}, (turnsL S).length ≤ 2 * S.length
  | [] => Nat.le_refl _
  | s :: S => by
    have := turns_len (S := S)
    rw [turnsL]
    cases s.e <;> simp only [List.length_cons] <;> omega
theorem turns_append : ∀ {S T : List Stt}, turnsL (S ++ T) = turnsL S ++ turnsL T
  | [], _ => rfl
  | s :: S, T => by
    rw [List.cons_append, turnsL, turnsL, turns_append]
    cases s.e <;> simp
def PlD (p : Pl) : PyData := .tuple [F p.m, .int p.s]
def CtD (c : Pl × Int) : PyData := .tuple [F c.1.m, .int c.1.s, .int c.2]
theorem eqv_Pl {p q : Pl} : PyData.eqv (PlD p) (PlD q) = decide (p = q) := by
  unfold PlD
  simp only [PyData.eqv, PyData.eqvAll, eqv_F, Bool.and_true]
  rw [Bool.eq_iff_iff]
  simp only [Bool.and_eq_true, decide_eq_true_eq, beq_iff_eq]
  constructor
  · rintro ⟨h1, h2⟩; exact Pl.ext' h1 h2
  · rintro rfl; exact ⟨rfl, rfl⟩
/-- what is counted, a row more -/
theorem cnt_step {done : List Rw} {a : Rw} {L : List Pl} (hle : ∀ r ∈ done, r.p.le a.p) (hL : L.Pairwise Pl.lt) (hm : ∀ p, p ∈ L ↔ ∃ r ∈ done, r.p = p) :
    (∀ L0, L = L0 ++ [a.p] → (∀ q ∈ L0, sumLe (done ++ [a]) q = sumLe done q)) ∧
    (L.getLast? ≠ some a.p → (L ++ [a.p]).Pairwise Pl.lt ∧ (∀ q ∈ L, sumLe (done ++ [a]) q = sumLe done q)) ∧
    sumLe (done ++ [a]) a.p = (done.map Rw.d).sum + a.d := by
  have key : ∀ q, q.lt a.p → sumLe (done ++ [a]) q = sumLe done q := fun q hq => by
    rw [sumLe_append, sumLe_one, if_neg (Pl.not_le.mpr hq), Int.add_zero]
  refine ⟨fun L0 e q hq => ?_, fun hn => ?_, ?_⟩
  · subst e
    exact key q ((List.pairwise_append.mp hL).2.2 q hq a.p (by simp))
  · have hlt : ∀ q ∈ L, q.lt a.p := by
      intro q hq
      have hle2 : ∀ q ∈ L, q.le a.p := fun q hq => by
        obtain ⟨r, hr, rfl⟩ := (hm q).mp hq
        exact hle r hr
      cases hl : L.getLast? with
      | none => rw [List.getLast?_eq_none_iff] at hl; subst hl; cases hq
      | some z =>
        obtain ⟨L0, rfl⟩ := List.getLast?_eq_some_iff.mp hl
        have hz : z.lt a.p := by
          rcases Pl.lt_or (p := z) (q := a.p) with g | g | g
          · exact g
          · exact absurd (g ▸ hl) hn
          · exact absurd (Pl.lt_le g (hle2 z (by simp))) (Pl.lt_irrefl _)
        rcases List.mem_append.mp hq with hq | hq
        · exact Pl.lt_trans ((List.pairwise_append.mp hL).2.2 q hq z (by simp)) hz
        · rw [List.mem_singleton.mp hq]; exact hz
    exact ⟨List.pairwise_append.mpr ⟨hL, by simp, fun q hq b hb => by rw [List.mem_singleton.mp hb]; exact hlt q hq⟩, fun q hq => key q (hlt q hq)⟩
  · rw [sumLe_all (fun r hr => by
      rcases List.mem_append.mp hr with hr | hr
      · exact hle r hr
      · rw [List.mem_singleton.mp hr]; exact Pl.le_refl _), List.map_append, List.sum_append]
    simp
/-- the counts of stretches -/
def cntsL (S : List Stt) : List (Pl × Int) := (plS S).map fun q => (q, (cntS S q : Int))
theorem cnts_eq {S : List Stt} {rs : List Rw} {L : List Pl} (hS : ∀ s ∈ S, s.ok) (hp : rs.Perm (turnsL S)) (hL : L.Pairwise Pl.lt) (hm : ∀ p, p ∈ L ↔ ∃ r ∈ rs, r.p = p) :
    L.map (fun q => (q, sumLe rs q)) = cntsL S := by
  have e : L = plS S := rise_uniq hL rise_plS fun p => by
    rw [hm, mem_plS, ← turns_pl]
    constructor
    · rintro ⟨r, hr, e⟩; exact ⟨r, hp.mem_iff.mp hr, e⟩
    · rintro ⟨r, hr, e⟩; exact ⟨r, hp.mem_iff.mpr hr, e⟩
  rw [e]
  unfold cntsL
  refine List.map_congr_left fun q _ => ?_
  rw [sumLe_perm hp, sum_turns hS]
def fromC (n : Int) (cs : List (Pl × Int)) : List Stt := scanB none (cs.map fun c => (c.1, decide (n ≤ c.2)))
theorem from_cnts {S : List Stt} {n : Nat} : fromC n (cntsL S) = told S n := by
  unfold fromC cntsL told
  rw [List.map_map]
  congr 1
  refine List.map_congr_left fun q _ => ?_
  show (q, decide ((n : Int) ≤ (cntS S q : Int))) = (q, atL S n q)
  unfold atL
  congr 1
  rw [decide_eq_decide]
  omega
def bgD : Option (Rat × Int) → PyData
  | none => .none
  | some (b, h) => .tuple [F b, .int h]
def lastS (b : Option (Rat × Int)) : List Stt := match b with
  | none => []
  | some (b, h) => [⟨b, h, none⟩]
theorem scan_nil {b : Option (Rat × Int)} : scanB b [] = lastS b := by cases b <;> rfl
end Sk
namespace Sk
open PySem PySem.Spec PyProof.Rows L2
theorem cut_drop {xs : List PyData} {i : Nat} : cutD xs (some (i : Int)) none = xs.drop i := by
  unfold cutD
  rw [HT.sIx_nat, HT.sIx_none]
  by_cases h : i ≤ xs.length
  · rw [Nat.min_eq_left h, List.take_of_length_le (by rw [List.length_drop]; omega)]
  · rw [Nat.min_eq_right (by omega), List.drop_of_length_le (by omega), List.drop_of_length_le (by omega)]
    simp
theorem cut_take {xs : List PyData} {i : Nat} : cutD xs none (some (i : Int)) = xs.take i := by
  unfold cutD
  rw [HT.sIx_nat, HT.sIx_none]
  simp
theorem idx_get {α : Type} {f : α → PyData} {xs : List α} {i : Nat} {y : α} (h : xs[i]? = some y) : idxD (.list (xs.map f)) (.int i) = some (f y) := by
  show atI (xs.map f) (i : Int) = _
  have hi : i < xs.length := (List.getElem?_eq_some_iff.mp h).1
  unfold atI ixN
  simp [hi, (List.getElem?_eq_some_iff.mp h).2]
theorem idx_getT {α : Type} {f : α → PyData} {xs : List α} {i : Nat} {y : α} (h : xs[i]? = some y) : idxD (.tuple (xs.map f)) (.int i) = some (f y) := by
  show atI (xs.map f) (i : Int) = _
  have hi : i < xs.length := (List.getElem?_eq_some_iff.mp h).1
  unfold atI ixN
  simp [hi, (List.getElem?_eq_some_iff.mp h).2]
theorem idx_lastM {α : Type} {f : α → PyData} {xs : List α} {y : α} : idxD (.list ((xs ++ [y]).map f)) (.int (-1)) = some (f y) := idx_last (by simp)
end Sk
namespace Sk
open PySem PySem.Spec PyProof.Rows L2
/-- a value, own list or not, that is read as so much data -/
structure Rd (st : Mem) (w : W) (d : PyData) : Prop where
  lk : look st w = some d
  ld : lookD st w = some d
theorem rd_val {st : Mem} {d : PyData} : Rd st (.val d) d := ⟨rfl, rfl⟩
theorem rd_at {st : Mem} {k : Nat} {l : Bool} {ds : List PyData} (h : st[k]? = some (l, ds)) : Rd st (.loc k) (.list ds) := ⟨by simp [look, h], by simp [lookD, h]⟩
theorem rd_end {u : Mem} {l : Bool} {ds : List PyData} {k : Nat} (h : u.length = k) : Rd (u ++ [(l, ds)]) (.loc k) (.list ds) := rd_at (at_end h)
theorem wl_rd {st : Mem} {w : W} {d : PyData} {Q : PyData → Prop} (h : Rd st w d) (q : Q d) : wL st w Q := ⟨⟨d, h.ld, q⟩⟩
theorem wp_lk {st : Mem} {w : W} {d : PyData} {Q : PyData → Prop} (h : Rd st w d) (q : Q d) : wp (look st w) Q := wp_is h.lk q
theorem wp_lks {st : Mem} {w : W} {d : PyData} {Q : List PyData → Prop} (h : Rd st w d) (q : Q [d]) : wp (looks st [w]) Q := wp_is (looks_one h.lk) q
theorem wp_sqL {st : Mem} {w : W} {ds : List PyData} {Q : List PyData → Prop} (h : Rd st w (.list ds)) (q : Q ds) : wp (seqOf st w) Q := wp_is (by unfold seqOf; rw [h.lk]) q
theorem wp_sqT {st : Mem} {w : W} {ds : List PyData} {Q : List PyData → Prop} (h : Rd st w (.tuple ds)) (q : Q ds) : wp (seqOf st w) Q := wp_is (by unfold seqOf; rw [h.lk]) q
end Sk
namespace Sk
open PySem PySem.Spec PyProof.Rows L2
section
variable {C : CallF} {r : Rho} {st : Mem} {Q : WR} {tg : Tg} {it : Itx} {bd : Sxs}
/-- a for over a typed list that a call tells -/
theorem ws_forX {α : Type} (f : α → PyData)
    (h : wI C it r st fun xs ls s0 => ∃ as : List α, xs = as.map f ∧ ls = [] ∧ ∃ J : List α → List α → Rho → Mem → Prop, J [] as r s0 ∧ (∀ r st, J as [] r st → Q .nx r st) ∧ ∀ done a todo r st, as = done ++ a :: todo → J done (a :: todo) r st →
      wp (bindT tg (.val (f a)) r) fun r1 => wSs C bd r1 st (turnM (J (done ++ [a]) todo) Q)) : wS C (.for1 tg it bd) r st Q := by
  obtain ⟨⟨xs, ls, s0⟩, e1, as, ex, el, J, h1, h2, h3⟩ := h
  exact ws_forM f as J ⟨(xs, ls, s0), e1, ex, el, h1, h2, h3⟩
end
end Sk
namespace Sk
open PySem PySem.Spec PyProof.Rows L2
section
variable {C : CallF} {r : Rho} {st : Mem}
/-- the last one of an own list taken off -/
theorem we_pop {Q : WQ} {i k : Nat} {u : Mem} {ds : List PyData} {d : PyData} (hr : r[i]? = some (some (.loc k))) (hL : u.length = k) (q : Q (.val d) (u ++ [(true, ds)])) : wE C (.mt .pop (.var i) .nil) r (u ++ [(true, ds ++ [d])]) Q := by
  refine we_mt (we_var hr (wes_nil ?_))
  have hk : (u ++ [(true, ds ++ [d])])[k]? = some (true, ds ++ [d]) := at_end hL
  refine ⟨k, ds ++ [d], rfl, hk, ⟨⟨(ds, u ++ [(true, ds ++ [d])]), ?_, ⟨_, hk⟩, ?_⟩⟩⟩
  · simp [mtD]
  · have e1 : mtV .pop (ds ++ [d]) = d := by simp [mtV]
    rw [e1]
    show Q (.val d) ((u ++ [(true, ds ++ [d])]).set k (true, ds))
    rw [set_end hL]
    exact q
end
end Sk
namespace Sk
open PySem PySem.Spec PyProof.Rows L2
section
variable {C : CallF} {r : Rho} {st : Mem} {Q : WR} {tg : Tg} {it : Itx} {bd : Sxs}
/-- a for over a typed list, own or not, that stays as it is -/
theorem ws_forY {α : Type} (f : α → PyData)
    (h : wI C it r st fun xs ls s0 => ∃ as : List α, xs = as.map f ∧ ∃ J : List α → List α → Rho → Mem → Prop, (∀ done todo r s, J done todo r s → Stay ls s0 s) ∧ J [] as r s0 ∧ (∀ r st, J as [] r st → Q .nx r st) ∧ ∀ done a todo r st, as = done ++ a :: todo → J done (a :: todo) r st →
      wp (bindT tg (.val (f a)) r) fun r1 => wSs C bd r1 st (turnM (J (done ++ [a]) todo) Q)) : wS C (.for1 tg it bd) r st Q := by
  obtain ⟨⟨xs, ls, s0⟩, e1, as, ex, J, h0, hI, he, hs⟩ := h
  obtain rfl : xs = as.map f := ex
  refine ws_for (fun _ ls' s0' ys r s => ls' = ls ∧ s0' = s0 ∧ ∃ done todo, as = done ++ todo ∧ ys = todo.map f ∧ J done todo r s) ⟨(_, ls, s0), e1, ⟨rfl, rfl, [], as, rfl, rfl, hI⟩, ?_, ?_⟩
  · rintro r s ⟨_, _, done, todo, e, hy, hJ⟩
    obtain rfl : todo = [] := by cases todo with | nil => rfl | cons _ _ => cases hy
    rw [List.append_nil] at e
    subst e
    exact he r s hJ
  · rintro x ys r s ⟨_, _, done, todo, e, hy, hJ⟩
    cases todo with
    | nil => cases hy
    | cons a todo =>
      simp only [List.map_cons, List.cons.injEq] at hy
      obtain ⟨rfl, rfl⟩ := hy
      obtain ⟨r1, e3, p, e4, q⟩ := hs done a todo r s e hJ
      refine ⟨r1, e3, p, e4, ?_⟩
      obtain ⟨o, r2, s2⟩ := p
      have q := q.go
      cases o with
      | nx => exact ⟨h0 _ _ _ _ q, rfl, rfl, done ++ [a], todo, by rw [e, List.append_assoc]; rfl, rfl, q⟩
      | ct => exact ⟨h0 _ _ _ _ q, rfl, rfl, done ++ [a], todo, by rw [e, List.append_assoc]; rfl, rfl, q⟩
      | brk => exact q
      | ret w => exact q
end
/-- a value whose items are so many, whatever is put behind the store -/
structure Sq (st : Mem) (w : W) (ds : List PyData) : Prop where
  sq : ∀ v, seqOf (st ++ v) w = some ds
  ls : ∀ n ∈ locs1 w, n < st.length
theorem sq_val {st : Mem} {d : PyData} {ds : List PyData} (h : ∀ s, seqOf s (.val d) = some ds) : Sq st (.val d) ds := ⟨fun v => h _, by simp [locs1]⟩
theorem sq_end {u : Mem} {l : Bool} {ds : List PyData} {k : Nat} (h : u.length = k) : Sq (u ++ [(l, ds)]) (.loc k) ds := by
  subst h
  refine ⟨fun v => ?_, fun n hn => ?_⟩
  · simp [seqOf, look]
  · simp only [locs1, List.mem_singleton] at hn
    subst hn
    simp
theorem Sq.more {st v : Mem} {w : W} {ds : List PyData} (h : Sq st w ds) : Sq (st ++ v) w ds := ⟨fun x => by rw [List.append_assoc]; exact h.sq _, fun n hn => by have := h.ls n hn; rw [List.length_append]; omega⟩
theorem Sq.stay {st a b : Mem} {w : W} {ds : List PyData} (h : Sq st w ds) : Stay (locs1 w) (st ++ a) (st ++ b) := fun n hn => by
  have := h.ls n hn
  rw [List.getElem?_append_left this, List.getElem?_append_left this]
theorem Sq.self {st : Mem} {w : W} {ds : List PyData} (h : Sq st w ds) : seqOf st w = some ds := by have := h.sq []; rwa [List.append_nil] at this
end Sk
namespace Sk
open PySem PySem.Spec PyProof.Rows L2
/-- a comprehension without a condition over a typed list that a call tells -/
theorem wf_lcX {α : Type} {C : CallF} {r : Rho} {st : Mem} {elt : Ex} {tg : Tg} {it : Itx} {own : List Nat} {Q : List PyData → Mem → Prop} (f : α → PyData)
    (h : wI C it r st fun xs ls s0 => ∃ as : List α, xs = as.map f ∧ ∃ g : α → PyData, (∀ a ∈ as, wp (bindT tg (.val (f a)) (wipeR r own)) fun r1 => wE C elt r1 s0 fun w s2 => wZ s2 w fun d s3 => s3 = s0 ∧ d = g a) ∧ Q (as.map g) s0) : wF C (.lc elt tg it .nil own) r st Q := by
  obtain ⟨⟨xs, ls, s0⟩, e1, as, ex, g, h1, h2⟩ := h
  exact wf_lcM f g as ⟨(xs, ls, s0), e1, ex, h1, h2⟩
theorem all_tt {α : Type} {as : List α} : bltD .all1 [.list (as.map fun _ => .bool true)] = some (.bool true) := by
  rw [bl_all (p := fun _ => true)]
  simp

/-! ### each n-th one; greatest and least -/
theorem wbl_step {ds : List PyData} {n : Int} {Q : PyData → Prop} (hn : 0 < n) (q : Q (.list (stepL n ds))) : wBl .step1 [.list ds, .int n] Q :=
  wbl_is (by simp only [bltD, if_pos hn]) q
theorem step_map {α β : Type} (f : α → β) (n : Int) (xs : List α) : stepL n (xs.map f) = (stepL n xs).map f := by
  unfold stepL
  rw [List.length_map]
  generalize sliceRange 0 (xs.length : Int) n = js
  induction js with
  | nil => rfl
  | cons j js ih =>
    rw [List.filterMap_cons, List.filterMap_cons, List.getElem?_map]
    cases xs[j]? with
    | none => exact ih
    | some x => simp only [Option.map_some, List.map_cons, ih]
theorem step_mem {α : Type} {n : Int} {xs : List α} {x : α} (h : x ∈ stepL n xs) : x ∈ xs := by
  unfold stepL at h
  obtain ⟨j, _, hj⟩ := List.mem_filterMap.mp h
  exact List.mem_of_getElem? hj
theorem intsD_map {ns : List Int} : intsD (ns.map .int) = some ns := by
  induction ns with
  | nil => rfl
  | cons n ns ih => rw [List.map_cons]; unfold intsD; rw [ih]; rfl
theorem wbl_max {n : Int} {ns : List Int} {Q : PyData → Prop} (q : ∀ m, m ∈ n :: ns → (∀ y ∈ n :: ns, y ≤ m) → Q (.int m)) : wBl .max1 [.list (.int n :: ns.map .int)] Q := by
  have e : PyData.int n :: ns.map .int = (n :: ns).map .int := rfl
  rw [e]
  exact wbl_is (d := .int (ns.foldl max n)) (by simp only [bltD, intsD_map, Option.bind_some, bestD, Option.map_some]) (q _ (foldl_max ns n).1 (foldl_max ns n).2)
end Sk

namespace Lw
open PySem PySem.Spec PyProof.Rows L2 Sk

def topS (i : Nat) : Stmt := PySem.Challenge.pw_skylanes_k34_the_bounds_ends.main.body.getD i (.Pass ⟨0, 0, 0, 0⟩)
/-- shared_factor -/
def d0 : Df := ⟨"shared_factor", topS 1, ["one", "other"], ["one", "other"], [], false⟩
def f0 : Fd := ⟨2, 2, (.cons (.whl (.cmp .gt (.var 1) (.con (.int 0))) (.cons (.par [0, 1] (.cons (.var 1) (.cons (.bin .mod (.var 0) (.var 1)) .nil))) .nil)) (.cons (.ret (.var 0)) .nil)), false⟩
/-- part -/
def d1 : Df := ⟨"part", topS 2, ["top", "bottom", "factor"], ["top", "bottom"], [], false⟩
def f1 : Fd := ⟨2, 3, (.cons (.ite (.cmp .lt (.var 1) (.con (.int 0))) (.cons (.par [0, 1] (.cons (.neg (.var 0)) (.cons (.neg (.var 1)) .nil))) .nil) .nil) (.cons (.asg 2 (.call 0 (.cons (.blt .abs (.cons (.var 0) .nil)) (.cons (.var 1) .nil)))) (.cons (.ret (.tup (.cons (.bin .div (.var 0) (.var 2)) (.cons (.bin .div (.var 1) (.var 2)) .nil)))) .nil))), false⟩
/-- plus -/
def d2 : Df := ⟨"plus", topS 3, ["one", "other"], ["one", "other"], [], false⟩
def f2 : Fd := ⟨2, 2, (.cons (.ret (.call 1 (.cons (.bin .add (.bin .mul (.idx (.var 0) (.con (.int 0))) (.idx (.var 1) (.con (.int 1)))) (.bin .mul (.idx (.var 1) (.con (.int 0))) (.idx (.var 0) (.con (.int 1))))) (.cons (.bin .mul (.idx (.var 0) (.con (.int 1))) (.idx (.var 1) (.con (.int 1)))) .nil)))) .nil), false⟩
/-- minus -/
def d3 : Df := ⟨"minus", topS 4, ["one", "other"], ["one", "other"], [], false⟩
def f3 : Fd := ⟨2, 2, (.cons (.ret (.call 1 (.cons (.bin .sub (.bin .mul (.idx (.var 0) (.con (.int 0))) (.idx (.var 1) (.con (.int 1)))) (.bin .mul (.idx (.var 1) (.con (.int 0))) (.idx (.var 0) (.con (.int 1))))) (.cons (.bin .mul (.idx (.var 0) (.con (.int 1))) (.idx (.var 1) (.con (.int 1)))) .nil)))) .nil), false⟩
/-- times -/
def d4 : Df := ⟨"times", topS 5, ["one", "other"], ["one", "other"], [], false⟩
def f4 : Fd := ⟨2, 2, (.cons (.ret (.call 1 (.cons (.bin .mul (.idx (.var 0) (.con (.int 0))) (.idx (.var 1) (.con (.int 0)))) (.cons (.bin .mul (.idx (.var 0) (.con (.int 1))) (.idx (.var 1) (.con (.int 1)))) .nil)))) .nil), false⟩
/-- over -/
def d5 : Df := ⟨"over", topS 6, ["one", "other"], ["one", "other"], [], false⟩
def f5 : Fd := ⟨2, 2, (.cons (.ret (.call 1 (.cons (.bin .mul (.idx (.var 0) (.con (.int 0))) (.idx (.var 1) (.con (.int 1)))) (.cons (.bin .mul (.idx (.var 0) (.con (.int 1))) (.idx (.var 1) (.con (.int 0)))) .nil)))) .nil), false⟩
/-- before -/
def d6 : Df := ⟨"before", topS 7, ["one", "other"], ["one", "other"], [], false⟩
def f6 : Fd := ⟨2, 2, (.cons (.ret (.cmp .lt (.bin .mul (.idx (.var 0) (.con (.int 0))) (.idx (.var 1) (.con (.int 1)))) (.bin .mul (.idx (.var 1) (.con (.int 0))) (.idx (.var 0) (.con (.int 1)))))) .nil), false⟩
/-- worth_at -/
def d7 : Df := ⟨"worth_at", topS 14, ["line", "point"], ["line", "point"], [], false⟩
def f7 : Fd := ⟨2, 2, (.cons (.ret (.call 2 (.cons (.call 2 (.cons (.call 4 (.cons (.idx (.var 0) (.con (.int 0))) (.cons (.idx (.var 1) (.con (.int 0))) .nil))) (.cons (.call 4 (.cons (.idx (.var 0) (.con (.int 1))) (.cons (.idx (.var 1) (.con (.int 1))) .nil))) .nil))) (.cons (.idx (.var 0) (.con (.int 2))) .nil)))) .nil), false⟩
/-- is_above -/
def d8 : Df := ⟨"is_above", topS 15, ["number"], ["number"], [], false⟩
def f8 : Fd := ⟨1, 1, (.cons (.ret (.call 6 (.cons (.con (.tuple [(.int 0), (.int 1)])) (.cons (.var 0) .nil)))) .nil), false⟩
/-- on_the_way -/
def d9 : Df := ⟨"on_the_way", topS 16, ["one", "other", "low", "high", "share", "a", "b"], ["one", "other", "low", "high"], [], false⟩
def f9 : Fd := ⟨4, 7, (.cons (.asg 4 (.call 5 (.cons (.var 2) (.cons (.call 3 (.cons (.var 2) (.cons (.var 3) .nil))) .nil)))) (.cons (.ret (.blt .tup1 (.cons (.fr (.lc (.call 2 (.cons (.var 5) (.cons (.call 4 (.cons (.var 4) (.cons (.call 3 (.cons (.var 6) (.cons (.var 5) .nil))) .nil))) .nil))) (.tup (.cons (.name 5) (.cons (.name 6) .nil))) (.zip (.var 0) (.var 1)) .nil [5, 6])) .nil))) .nil)), false⟩
/-- cut -/
def d10 : Df := ⟨"cut", topS 17, ["polygon", "line", "made", "ahead", "low", "here", "high"], ["polygon", "line"], [2], false⟩
def f10 : Fd := ⟨2, 7, (.cons (.new 2 (.disp .nil)) (.cons (.ite (.cmp .eq (.blt .len (.cons (.var 0) .nil)) (.con (.int 0))) (.cons (.ret (.var 2)) .nil) .nil) (.cons (.asg 3 (.idx (.var 0) (.neg (.con (.int 1))))) (.cons (.asg 4 (.call 7 (.cons (.var 1) (.cons (.var 3) .nil)))) (.cons (.for1 (.name 5) (.seq (.var 0)) (.cons (.asg 6 (.call 7 (.cons (.var 1) (.cons (.var 5) .nil)))) (.cons (.ite (.or2 (.and2 (.call 8 (.cons (.var 4) .nil)) (.call 6 (.cons (.var 6) (.cons (.con (.tuple [(.int 0), (.int 1)])) .nil)))) (.and2 (.call 6 (.cons (.var 4) (.cons (.con (.tuple [(.int 0), (.int 1)])) .nil))) (.call 8 (.cons (.var 6) .nil)))) (.cons (.expr (.mt .app (.var 2) (.cons (.call 9 (.cons (.var 3) (.cons (.var 5) (.cons (.var 4) (.cons (.var 6) .nil))))) .nil))) .nil) .nil) (.cons (.ite (.not1 (.call 6 (.cons (.var 6) (.cons (.con (.tuple [(.int 0), (.int 1)])) .nil)))) (.cons (.expr (.mt .app (.var 2) (.cons (.var 5) .nil))) .nil) .nil) (.cons (.asg 3 (.var 5)) (.cons (.asg 4 (.var 6)) .nil)))))) (.cons (.ret (.var 2)) .nil)))))), false⟩
/-- cut_by -/
def d11 : Df := ⟨"cut_by", topS 18, ["polygon", "lines", "line"], ["polygon", "lines"], [], false⟩
def f11 : Fd := ⟨2, 3, (.cons (.for1 (.name 2) (.seq (.var 1)) (.cons (.asg 0 (.call 10 (.cons (.var 0) (.cons (.var 2) .nil)))) .nil)) (.cons (.ret (.var 0)) .nil)), false⟩
/-- middle_of -/
def d12 : Df := ⟨"middle_of", topS 19, ["points", "share", "total", "point", "a", "b", "number"], ["points"], [], false⟩
def f12 : Fd := ⟨1, 7, (.cons (.asg 1 (.call 1 (.cons (.con (.int 1)) (.cons (.blt .len (.cons (.var 0) .nil)) .nil)))) (.cons (.asg 2 (.idx (.var 0) (.con (.int 0)))) (.cons (.for1 (.name 3) (.seq (.slc (.var 0) (.cons (.con (.int 1)) .nil) .nil)) (.cons (.asg 2 (.blt .tup1 (.cons (.fr (.lc (.call 2 (.cons (.var 4) (.cons (.var 5) .nil))) (.tup (.cons (.name 4) (.cons (.name 5) .nil))) (.zip (.var 2) (.var 3)) .nil [4, 5])) .nil))) .nil)) (.cons (.ret (.blt .tup1 (.cons (.fr (.lc (.call 4 (.cons (.var 1) (.cons (.var 6) .nil))) (.name 6) (.seq (.var 2)) .nil [6])) .nil))) .nil)))), false⟩
/-- inner_point -/
def d13 : Df := ⟨"inner_point", topS 20, ["polygon", "lines", "found", "line", "above", "point"], ["polygon", "lines"], [2], false⟩
def f13 : Fd := ⟨2, 6, (.cons (.new 2 (.disp .nil)) (.cons (.for1 (.name 3) (.seq (.var 1)) (.cons (.asg 4 (.fr (.lc (.var 5) (.name 5) (.seq (.var 0)) (.cons (.call 8 (.cons (.call 7 (.cons (.var 3) (.cons (.var 5) .nil))) .nil)) .nil) [5]))) (.cons (.ite (.cmp .eq (.blt .len (.cons (.var 4) .nil)) (.con (.int 0))) (.cons (.ret (.con .none)) .nil) .nil) (.cons (.expr (.mt .app (.var 2) (.cons (.idx (.var 4) (.con (.int 0))) .nil))) .nil)))) (.cons (.ret (.call 12 (.cons (.var 2) .nil))) .nil))), false⟩
/-- square_of -/
def d14 : Df := ⟨"square_of", topS 21, ["begin", "end", "low", "high"], ["begin", "end", "low", "high"], [], false⟩
def f14 : Fd := ⟨4, 4, (.cons (.ret (.fr (.disp (.cons (.tup (.cons (.var 0) (.cons (.var 2) .nil))) (.cons (.tup (.cons (.var 1) (.cons (.var 2) .nil))) (.cons (.tup (.cons (.var 1) (.cons (.var 3) .nil))) (.cons (.tup (.cons (.var 0) (.cons (.var 3) .nil))) .nil))))))) .nil), false⟩
/-- piece_line -/
def d15 : Df := ⟨"piece_line", topS 22, ["plan", "number", "side", "one", "other", "rate"], ["plan", "number", "side"], [], false⟩
def f15 : Fd := ⟨3, 6, (.cons (.par [3, 4] (.cons (.idx (.var 0) (.var 1)) (.cons (.idx (.var 0) (.bin .add (.var 1) (.con (.int 1)))) .nil))) (.cons (.asg 5 (.call 5 (.cons (.call 3 (.cons (.idx (.var 4) (.bin .add (.con (.int 1)) (.var 2))) (.cons (.idx (.var 3) (.bin .add (.con (.int 1)) (.var 2))) .nil))) (.cons (.call 3 (.cons (.idx (.var 4) (.con (.int 0))) (.cons (.idx (.var 3) (.con (.int 0))) .nil))) .nil)))) (.cons (.ret (.tup (.cons (.var 5) (.cons (.call 3 (.cons (.idx (.var 3) (.bin .add (.con (.int 1)) (.var 2))) (.cons (.call 4 (.cons (.var 5) (.cons (.idx (.var 3) (.con (.int 0))) .nil))) .nil))) .nil)))) .nil))), false⟩
/-- span_lines -/
def d16 : Df := ⟨"span_lines", topS 23, ["one", "other", "i", "j", "plan", "beside", "lines"], ["one", "other", "i", "j"], [], false⟩
def f16 : Fd := ⟨4, 7, (.cons (.par [4, 5] (.cons (.idx (.var 0) (.con (.int 0))) (.cons (.idx (.var 1) (.con (.int 0))) .nil))) (.cons (.asg 6 (.fr (.disp (.cons (.tup (.cons (.con (.tuple [(.int 1), (.int 1)])) (.cons (.con (.tuple [(.int 0), (.int 1)])) (.cons (.call 3 (.cons (.con (.tuple [(.int 0), (.int 1)])) (.cons (.idx (.idx (.var 4) (.var 2)) (.con (.int 0))) .nil))) .nil)))) (.cons (.tup (.cons (.con (.tuple [(.int (-1)), (.int 1)])) (.cons (.con (.tuple [(.int 0), (.int 1)])) (.cons (.idx (.idx (.var 4) (.bin .add (.var 2) (.con (.int 1)))) (.con (.int 0))) .nil)))) .nil))))) (.cons (.ret (.bin .add (.var 6) (.fr (.disp (.cons (.tup (.cons (.con (.tuple [(.int 0), (.int 1)])) (.cons (.con (.tuple [(.int 1), (.int 1)])) (.cons (.call 3 (.cons (.con (.tuple [(.int 0), (.int 1)])) (.cons (.idx (.idx (.var 5) (.var 3)) (.con (.int 0))) .nil))) .nil)))) (.cons (.tup (.cons (.con (.tuple [(.int 0), (.int 1)])) (.cons (.con (.tuple [(.int (-1)), (.int 1)])) (.cons (.idx (.idx (.var 5) (.bin .add (.var 3) (.con (.int 1)))) (.con (.int 0))) .nil)))) .nil)))))) .nil))), false⟩
/-- window_lines -/
def d17 : Df := ⟨"window_lines", topS 24, ["one", "other"], ["one", "other"], [], false⟩
def f17 : Fd := ⟨2, 2, (.cons (.ret (.fr (.disp (.cons (.tup (.cons (.con (.tuple [(.int 1), (.int 1)])) (.cons (.con (.tuple [(.int (-1)), (.int 1)])) (.cons (.idx (.idx (.var 0) (.con (.int 1))) (.con (.int 2))) .nil)))) (.cons (.tup (.cons (.con (.tuple [(.int (-1)), (.int 1)])) (.cons (.con (.tuple [(.int 1), (.int 1)])) (.cons (.idx (.idx (.var 1) (.con (.int 1))) (.con (.int 2))) .nil)))) .nil))))) .nil), false⟩
/-- reach_of -/
def d18 : Df := ⟨"reach_of", topS 25, ["one", "other", "apart", "side", "kind"], ["one", "other", "apart", "side"], [], false⟩
def f18 : Fd := ⟨4, 5, (.cons (.asg 4 (.blt .int1 (.cons (.cmp .eq (.var 3) (.con (.int 2))) .nil))) (.cons (.ret (.call 2 (.cons (.idx (.var 2) (.var 4)) (.cons (.call 2 (.cons (.idx (.idx (.var 0) (.con (.int 1))) (.var 4)) (.cons (.idx (.idx (.var 1) (.con (.int 1))) (.var 4)) .nil))) .nil)))) .nil)), false⟩
/-- side_lines -/
def d19 : Df := ⟨"side_lines", topS 26, ["one", "other", "apart", "place", "side", "rate", "base", "more", "ground", "reach", "off", "lines"], ["one", "other", "apart", "place", "side"], [], false⟩
def f19 : Fd := ⟨5, 12, (.cons (.asgT (.cons (.name 5) (.cons (.name 6) .nil)) (.call 15 (.cons (.idx (.var 0) (.con (.int 0))) (.cons (.idx (.var 3) (.con (.int 0))) (.cons (.var 4) .nil))))) (.cons (.asgT (.cons (.name 7) (.cons (.name 8) .nil)) (.call 15 (.cons (.idx (.var 1) (.con (.int 0))) (.cons (.idx (.var 3) (.con (.int 1))) (.cons (.var 4) .nil))))) (.cons (.asg 9 (.call 18 (.cons (.var 0) (.cons (.var 1) (.cons (.var 2) (.cons (.var 4) .nil)))))) (.cons (.asg 10 (.call 3 (.cons (.var 6) (.cons (.var 8) .nil)))) (.cons (.asg 11 (.fr (.disp (.cons (.tup (.cons (.call 3 (.cons (.con (.tuple [(.int 0), (.int 1)])) (.cons (.var 5) .nil))) (.cons (.var 7) (.cons (.call 3 (.cons (.var 9) (.cons (.var 10) .nil))) .nil)))) .nil)))) (.cons (.ret (.bin .add (.var 11) (.fr (.disp (.cons (.tup (.cons (.var 5) (.cons (.call 3 (.cons (.con (.tuple [(.int 0), (.int 1)])) (.cons (.var 7) .nil))) (.cons (.call 2 (.cons (.var 9) (.cons (.var 10) .nil))) .nil)))) .nil))))) .nil)))))), false⟩
/-- twelve_lines -/
def d20 : Df := ⟨"twelve_lines", topS 27, ["one", "other", "apart", "i", "j", "lines", "side"], ["one", "other", "apart", "i", "j"], [5], false⟩
def f20 : Fd := ⟨5, 7, (.cons (.new 5 (.cat (.call 16 (.cons (.var 0) (.cons (.var 1) (.cons (.var 3) (.cons (.var 4) .nil))))) (.call 17 (.cons (.var 0) (.cons (.var 1) .nil))))) (.cons (.for1 (.name 6) (.rng1 (.con (.int 3))) (.cons (.expr (.mt .ext (.var 5) (.cons (.call 19 (.cons (.var 0) (.cons (.var 1) (.cons (.var 2) (.cons (.tup (.cons (.var 3) (.cons (.var 4) .nil))) (.cons (.var 6) .nil)))))) .nil))) .nil)) (.cons (.ret (.var 5)) .nil))), false⟩
/-- piece_square -/
def d21 : Df := ⟨"piece_square", topS 28, ["one", "other", "i", "j"], ["one", "other", "i", "j"], [], false⟩
def f21 : Fd := ⟨4, 4, (.cons (.ret (.call 14 (.cons (.idx (.idx (.idx (.var 0) (.con (.int 0))) (.var 2)) (.con (.int 0))) (.cons (.idx (.idx (.idx (.var 0) (.con (.int 0))) (.bin .add (.var 2) (.con (.int 1)))) (.con (.int 0))) (.cons (.idx (.idx (.idx (.var 1) (.con (.int 0))) (.var 3)) (.con (.int 0))) (.cons (.idx (.idx (.idx (.var 1) (.con (.int 0))) (.bin .add (.var 3) (.con (.int 1)))) (.con (.int 0))) .nil)))))) .nil), false⟩
/-- far_numbers -/
def d22 : Df := ⟨"far_numbers", topS 29, ["lines", "numbers", "total", "number"], ["lines"], [], false⟩
def f22 : Fd := ⟨1, 4, (.cons (.for1 (.name 1) (.seq (.tup (.cons (.tup (.cons (.con (.int 0)) (.cons (.con (.int 3)) (.cons (.con (.int 5)) .nil)))) (.cons (.tup (.cons (.con (.int 1)) (.cons (.con (.int 2)) (.cons (.con (.int 4)) .nil)))) .nil)))) (.cons (.asg 2 (.con (.tuple [(.int 0), (.int 1)]))) (.cons (.for1 (.name 3) (.seq (.var 1)) (.cons (.asg 2 (.call 2 (.cons (.var 2) (.cons (.idx (.idx (.var 0) (.var 3)) (.con (.int 2))) .nil)))) .nil)) (.cons (.ite (.not1 (.call 8 (.cons (.var 2) .nil))) (.cons (.ret (.var 1)) .nil) .nil) .nil)))) (.cons (.ret (.con .none)) .nil)), false⟩
/-- meet_within -/
def d23 : Df := ⟨"meet_within", topS 30, ["one", "other", "apart", "i", "j", "lines", "polygon", "k"], ["one", "other", "apart", "i", "j"], [], false⟩
def f23 : Fd := ⟨5, 8, (.cons (.ite (.notN (.call 22 (.cons (.bin .add (.call 16 (.cons (.var 0) (.cons (.var 1) (.cons (.var 3) (.cons (.var 4) .nil))))) (.call 17 (.cons (.var 0) (.cons (.var 1) .nil)))) .nil))) (.cons (.ret (.con .none)) .nil) .nil) (.cons (.asg 5 (.call 20 (.cons (.var 0) (.cons (.var 1) (.cons (.var 2) (.cons (.var 3) (.cons (.var 4) .nil))))))) (.cons (.asg 6 (.call 11 (.cons (.call 21 (.cons (.var 0) (.cons (.var 1) (.cons (.var 3) (.cons (.var 4) .nil))))) (.cons (.slc (.var 5) (.cons (.con (.int 4)) .nil) .nil) .nil)))) (.cons (.ret (.call 13 (.cons (.var 6) (.cons (.fr (.lc (.idx (.var 5) (.var 7)) (.name 7) (.rng1 (.con (.int 12))) (.cons (.cmp .notIn (.var 7) (.con (.tuple [(.int 0), (.int 2), (.int 4), (.int 5)]))) .nil) [7])) .nil)))) .nil)))), false⟩
/-- turn_of -/
def d24 : Df := ⟨"turn_of", topS 32, ["one", "other"], ["one", "other"], [], false⟩
def f24 : Fd := ⟨2, 2, (.cons (.ret (.call 3 (.cons (.call 4 (.cons (.idx (.var 0) (.con (.int 0))) (.cons (.idx (.var 1) (.con (.int 1))) .nil))) (.cons (.call 4 (.cons (.idx (.var 0) (.con (.int 1))) (.cons (.idx (.var 1) (.con (.int 0))) .nil))) .nil)))) .nil), false⟩
/-- sum_of -/
def d25 : Df := ⟨"sum_of", topS 33, ["lines", "weights", "total", "number", "weight"], ["lines", "weights"], [], false⟩
def f25 : Fd := ⟨2, 5, (.cons (.asg 2 (.con (.tuple [(.int 0), (.int 1)]))) (.cons (.for1 (.tup (.cons (.name 3) (.cons (.name 4) .nil))) (.seq (.var 1)) (.cons (.asg 2 (.call 2 (.cons (.var 2) (.cons (.call 4 (.cons (.var 4) (.cons (.idx (.idx (.var 0) (.var 3)) (.con (.int 2))) .nil))) .nil)))) .nil)) (.cons (.ret (.var 2)) .nil))), false⟩
/-- can_not_be -/
def d26 : Df := ⟨"can_not_be", topS 34, ["lines", "weights", "total", "number", "weight"], ["lines", "weights"], [], false⟩
def f26 : Fd := ⟨2, 5, (.cons (.asg 2 (.call 25 (.cons (.var 0) (.cons (.var 1) .nil)))) (.cons (.ite (.call 6 (.cons (.var 2) (.cons (.con (.tuple [(.int 0), (.int 1)])) .nil))) (.cons (.ret (.con (.bool true))) .nil) .nil) (.cons (.ret (.and2 (.cmp .eq (.var 2) (.con (.tuple [(.int 0), (.int 1)]))) (.blt .any1 (.cons (.fr (.lc (.cmp .notIn (.var 3) (.con (.tuple [(.int 0), (.int 2), (.int 4), (.int 5)]))) (.tup (.cons (.name 3) (.cons (.name 4) .nil))) (.seq (.var 1)) .nil [3, 4])) .nil)))) .nil))), false⟩
/-- is_flat -/
def d27 : Df := ⟨"is_flat", topS 35, ["line"], ["line"], [], false⟩
def f27 : Fd := ⟨1, 1, (.cons (.ret (.and2 (.cmp .eq (.idx (.var 0) (.con (.int 0))) (.con (.tuple [(.int 0), (.int 1)]))) (.cmp .eq (.idx (.var 0) (.con (.int 1))) (.con (.tuple [(.int 0), (.int 1)]))))) .nil), false⟩
/-- single_weights -/
def d28 : Df := ⟨"single_weights", topS 36, ["lines", "number", "line", "weights"], ["lines"], [], false⟩
def f28 : Fd := ⟨1, 4, (.cons (.for1 (.tup (.cons (.name 1) (.cons (.name 2) .nil))) (.enum (.var 0)) (.cons (.asg 3 (.tup (.cons (.tup (.cons (.var 1) (.cons (.tup (.cons (.con (.int 1)) (.cons (.con (.int 1)) .nil))) .nil))) .nil))) (.cons (.ite (.and2 (.call 27 (.cons (.var 2) .nil)) (.call 26 (.cons (.var 0) (.cons (.var 3) .nil)))) (.cons (.ret (.var 3)) .nil) .nil) .nil))) (.cons (.ret (.con .none)) .nil)), false⟩
/-- size_of -/
def d29 : Df := ⟨"size_of", topS 37, ["line", "found"], ["line"], [], false⟩
def f29 : Fd := ⟨1, 2, (.cons (.asg 1 (.ife (.cmp .eq (.idx (.var 0) (.con (.int 0))) (.con (.tuple [(.int 0), (.int 1)]))) (.idx (.var 0) (.con (.int 1))) (.idx (.var 0) (.con (.int 0))))) (.cons (.ret (.ife (.call 6 (.cons (.var 1) (.cons (.con (.tuple [(.int 0), (.int 1)])) .nil))) (.call 3 (.cons (.con (.tuple [(.int 0), (.int 1)])) (.cons (.var 1) .nil))) (.var 1))) .nil)), false⟩
/-- are_against -/
def d30 : Df := ⟨"are_against", topS 38, ["one", "other"], ["one", "other"], [], false⟩
def f30 : Fd := ⟨2, 2, (.cons (.ite (.or2 (.call 27 (.cons (.var 0) .nil)) (.or2 (.call 27 (.cons (.var 1) .nil)) (.cmp .ne (.call 24 (.cons (.var 0) (.cons (.var 1) .nil))) (.con (.tuple [(.int 0), (.int 1)]))))) (.cons (.ret (.con (.bool false))) .nil) .nil) (.cons (.ret (.call 6 (.cons (.call 2 (.cons (.call 4 (.cons (.idx (.var 0) (.con (.int 0))) (.cons (.idx (.var 1) (.con (.int 0))) .nil))) (.cons (.call 4 (.cons (.idx (.var 0) (.con (.int 1))) (.cons (.idx (.var 1) (.con (.int 1))) .nil))) .nil))) (.cons (.con (.tuple [(.int 0), (.int 1)])) .nil)))) .nil)), false⟩
/-- pair_weights -/
def d31 : Df := ⟨"pair_weights", topS 39, ["lines", "number", "line", "further", "weights"], ["lines"], [], false⟩
def f31 : Fd := ⟨1, 5, (.cons (.for1 (.tup (.cons (.name 1) (.cons (.name 2) .nil))) (.enum (.var 0)) (.cons (.for1 (.name 3) (.rng2 (.bin .add (.var 1) (.con (.int 1))) (.blt .len (.cons (.var 0) .nil))) (.cons (.ite (.call 30 (.cons (.var 2) (.cons (.idx (.var 0) (.var 3)) .nil))) (.cons (.asg 4 (.tup (.cons (.tup (.cons (.var 1) (.cons (.call 29 (.cons (.idx (.var 0) (.var 3)) .nil)) .nil))) (.cons (.tup (.cons (.var 3) (.cons (.call 29 (.cons (.var 2) .nil)) .nil))) .nil)))) (.cons (.ite (.call 26 (.cons (.var 0) (.cons (.var 4) .nil))) (.cons (.ret (.var 4)) .nil) .nil) .nil)) .nil) .nil)) .nil)) (.cons (.ret (.con .none)) .nil)), false⟩
/-- third_weights -/
def d32 : Df := ⟨"third_weights", topS 40, ["turns", "numbers", "one", "other", "last", "found", "weight"], ["turns", "numbers"], [], false⟩
def f32 : Fd := ⟨2, 7, (.cons (.asgT (.cons (.name 2) (.cons (.name 3) (.cons (.name 4) .nil))) (.var 1)) (.cons (.asg 5 (.fr (.disp (.cons (.idx (.var 0) (.tup (.cons (.var 3) (.cons (.var 4) .nil)))) (.cons (.call 3 (.cons (.con (.tuple [(.int 0), (.int 1)])) (.cons (.idx (.var 0) (.tup (.cons (.var 2) (.cons (.var 4) .nil)))) .nil))) (.cons (.idx (.var 0) (.tup (.cons (.var 2) (.cons (.var 3) .nil)))) .nil)))))) (.cons (.ite (.blt .all1 (.cons (.fr (.lc (.call 6 (.cons (.var 6) (.cons (.con (.tuple [(.int 0), (.int 1)])) .nil))) (.name 6) (.seq (.var 5)) .nil [6])) .nil)) (.cons (.asg 5 (.fr (.lc (.call 3 (.cons (.con (.tuple [(.int 0), (.int 1)])) (.cons (.var 6) .nil))) (.name 6) (.seq (.var 5)) .nil [6]))) .nil) .nil) (.cons (.ite (.not1 (.blt .all1 (.cons (.fr (.lc (.call 8 (.cons (.var 6) .nil)) (.name 6) (.seq (.var 5)) .nil [6])) .nil))) (.cons (.ret (.con .none)) .nil) .nil) (.cons (.ret (.blt .tupZ (.cons (.var 1) (.cons (.var 5) .nil)))) .nil))))), false⟩
/-- triple_weights -/
def d33 : Df := ⟨"triple_weights", topS 41, ["lines", "many", "turns", "one", "other", "last", "weights"], ["lines"], [2], false⟩
def f33 : Fd := ⟨1, 7, (.cons (.asg 1 (.blt .len (.cons (.var 0) .nil))) (.cons (.newD 2) (.cons (.for1 (.name 3) (.rng1 (.var 1)) (.cons (.for1 (.name 4) (.rng2 (.bin .add (.var 3) (.con (.int 1))) (.var 1)) (.cons (.setI (.var 2) (.tup (.cons (.var 3) (.cons (.var 4) .nil))) (.call 24 (.cons (.idx (.var 0) (.var 3)) (.cons (.idx (.var 0) (.var 4)) .nil)))) .nil)) .nil)) (.cons (.for1 (.tup (.cons (.name 3) (.cons (.name 4) .nil))) (.seq (.var 2)) (.cons (.for1 (.name 5) (.rng2 (.bin .add (.var 4) (.con (.int 1))) (.var 1)) (.cons (.asg 6 (.call 32 (.cons (.var 2) (.cons (.tup (.cons (.var 3) (.cons (.var 4) (.cons (.var 5) .nil)))) .nil)))) (.cons (.ite (.and2 (.notN (.var 6)) (.call 26 (.cons (.var 0) (.cons (.var 6) .nil)))) (.cons (.ret (.var 6)) .nil) .nil) .nil))) .nil)) (.cons (.ret (.con .none)) .nil))))), false⟩
/-- weights_of -/
def d34 : Df := ⟨"weights_of", topS 42, ["lines", "numbers", "found", "number"], ["lines"], [], false⟩
def f34 : Fd := ⟨1, 4, (.cons (.asg 1 (.call 22 (.cons (.var 0) .nil))) (.cons (.ite (.notN (.var 1)) (.cons (.ret (.blt .tup1 (.cons (.fr (.lc (.tup (.cons (.var 3) (.cons (.con (.tuple [(.int 1), (.int 1)])) .nil))) (.name 3) (.seq (.var 1)) .nil [3])) .nil))) .nil) .nil) (.cons (.for1 (.name 2) (.seq (.tup (.cons (.call 28 (.cons (.var 0) .nil)) (.cons (.call 31 (.cons (.var 0) .nil)) .nil)))) (.cons (.ite (.notN (.var 2)) (.cons (.ret (.var 2)) .nil) .nil) .nil)) (.cons (.ret (.call 33 (.cons (.var 0) .nil))) .nil)))), false⟩
/-- pieces_of -/
def d35 : Df := ⟨"pieces_of", topS 44, ["one", "other", "found", "i", "j"], ["one", "other"], [2], false⟩
def f35 : Fd := ⟨2, 5, (.cons (.new 2 (.disp .nil)) (.cons (.for1 (.name 3) (.rng1 (.bin .sub (.blt .len (.cons (.idx (.var 0) (.con (.int 0))) .nil)) (.con (.int 1)))) (.cons (.expr (.mt .ext (.var 2) (.cons (.fr (.lc (.tup (.cons (.var 3) (.cons (.var 4) .nil))) (.name 4) (.rng1 (.bin .sub (.blt .len (.cons (.idx (.var 1) (.con (.int 0))) .nil)) (.con (.int 1)))) .nil [4])) .nil))) .nil)) (.cons (.ret (.var 2)) .nil))), false⟩
/-- met_at -/
def d36 : Df := ⟨"met_at", topS 45, ["one", "other", "apart", "i", "j", "found"], ["one", "other", "apart"], [], false⟩
def f36 : Fd := ⟨3, 6, (.cons (.for1 (.tup (.cons (.name 3) (.cons (.name 4) .nil))) (.seq (.call 35 (.cons (.var 0) (.cons (.var 1) .nil)))) (.cons (.asg 5 (.call 23 (.cons (.var 0) (.cons (.var 1) (.cons (.var 2) (.cons (.var 3) (.cons (.var 4) .nil))))))) (.cons (.ite (.notN (.var 5)) (.cons (.ret (.var 5)) .nil) .nil) .nil))) (.cons (.ret (.con .none)) .nil)), false⟩
/-- meet_of -/
def d37 : Df := ⟨"meet_of", topS 46, ["one", "other", "apart", "found", "rows", "i", "j"], ["one", "other", "apart"], [], false⟩
def f37 : Fd := ⟨3, 7, (.cons (.asg 3 (.call 36 (.cons (.var 0) (.cons (.var 1) (.cons (.var 2) .nil))))) (.cons (.ite (.notN (.var 3)) (.cons (.ret (.tup (.cons (.con (.str "meet")) (.cons (.idx (.var 3) (.con (.int 0))) (.cons (.idx (.var 3) (.con (.int 1))) .nil))))) .nil) .nil) (.cons (.asg 4 (.fr (.lc (.tup (.cons (.var 5) (.cons (.var 6) (.cons (.call 34 (.cons (.call 20 (.cons (.var 0) (.cons (.var 1) (.cons (.var 2) (.cons (.var 5) (.cons (.var 6) .nil)))))) .nil)) .nil)))) (.tup (.cons (.name 5) (.cons (.name 6) .nil))) (.seq (.call 35 (.cons (.var 0) (.cons (.var 1) .nil)))) .nil [5, 6]))) (.cons (.ret (.tup (.cons (.con (.str "apart")) (.cons (.blt .tup1 (.cons (.var 4) .nil)) .nil)))) .nil)))), false⟩
/-- _law_tape -/
def d38 : Df := ⟨"_law_tape", topS 48, ["_law_script", "_law_k", "_law_cell", "_law_digits"], ["_law_script", "_law_k"], [], true⟩
def f38 : Fd := ⟨2, 4, (.cons (.asg 2 (.con (.int 0))) (.cons (.ite (.cmp .lt (.var 1) (.blt .len (.cons (.var 0) .nil))) (.cons (.asg 2 (.idx (.var 0) (.var 1))) .nil) .nil) (.cons (.asg 3 (.bin .mul (.blt .abs (.cons (.var 2) .nil)) (.blt .int1 (.cons (.cmp .ge (.blt .abs (.cons (.var 2) .nil)) (.bin .pow (.con (.int 10)) (.con (.int 18)))) .nil)))) (.cons (.retF (.disp (.cons (.var 3) (.cons (.bin .mod (.bin .mul (.bin .mod (.bin .add (.bin .add (.var 2) (.bin .mul (.con (.int 7919)) (.var 1))) (.con (.int 1))) (.con (.int 2147483647))) (.con (.int 48271))) (.con (.int 2147483647))) .nil)))) .nil)))), true⟩
/-- _law_draw -/
def d39 : Df := ⟨"_law_draw", topS 49, ["_law_tape_here", "_law_many", "_law_found", "_law_once"], ["_law_tape_here", "_law_many"], [0], false⟩
def f39 : Fd := ⟨2, 4, (.cons (.ite (.cmp .gt (.idx (.var 0) (.con (.int 0))) (.con (.int 0))) (.cons (.asg 2 (.bin .mod (.idx (.var 0) (.con (.int 0))) (.var 1))) (.cons (.setI (.var 0) (.con (.int 0)) (.bin .div (.idx (.var 0) (.con (.int 0))) (.var 1))) (.cons (.ret (.var 2)) .nil))) .nil) (.cons (.setI (.var 0) (.con (.int 1)) (.bin .mod (.bin .add (.bin .mul (.idx (.var 0) (.con (.int 1))) (.con (.int 48271))) (.con (.int 12345))) (.con (.int 2147483647)))) (.cons (.asg 3 (.bin .mod (.bin .mul (.idx (.var 0) (.con (.int 1))) (.bin .add (.bin .mod (.idx (.var 0) (.con (.int 1))) (.con (.int 1009))) (.con (.int 3)))) (.con (.int 2147483629)))) (.cons (.ret (.bin .mod (.bin .mod (.bin .mul (.var 3) (.bin .add (.bin .mod (.var 3) (.con (.int 997))) (.con (.int 5)))) (.con (.int 998244353))) (.var 1))) .nil)))), false⟩
/-- _law_part -/
def d40 : Df := ⟨"_law_part", topS 50, ["_law_top", "_law_bottom", "_law_one", "_law_other", "_law_sign"], ["_law_top", "_law_bottom"], [], false⟩
def f40 : Fd := ⟨2, 5, (.cons (.par [2, 3] (.cons (.blt .abs (.cons (.var 0) .nil)) (.cons (.blt .abs (.cons (.var 1) .nil)) .nil))) (.cons (.whl (.cmp .gt (.var 3) (.con (.int 0))) (.cons (.par [2, 3] (.cons (.var 3) (.cons (.bin .mod (.var 2) (.var 3)) .nil))) .nil)) (.cons (.asg 4 (.bin .sub (.con (.int 1)) (.bin .mul (.con (.int 2)) (.blt .int1 (.cons (.cmp .lt (.var 1) (.con (.int 0))) .nil))))) (.cons (.ret (.tup (.cons (.bin .div (.bin .mul (.var 4) (.var 0)) (.var 2)) (.cons (.bin .div (.bin .mul (.var 4) (.var 1)) (.var 2)) .nil)))) .nil)))), false⟩
/-- _law_sum -/
def d41 : Df := ⟨"_law_sum", topS 52, ["_law_one", "_law_other"], ["_law_one", "_law_other"], [], false⟩
def f41 : Fd := ⟨2, 2, (.cons (.ret (.call 40 (.cons (.bin .add (.bin .mul (.idx (.var 0) (.con (.int 0))) (.idx (.var 1) (.con (.int 1)))) (.bin .mul (.idx (.var 1) (.con (.int 0))) (.idx (.var 0) (.con (.int 1))))) (.cons (.bin .mul (.idx (.var 0) (.con (.int 1))) (.idx (.var 1) (.con (.int 1)))) .nil)))) .nil), false⟩
/-- _law_product -/
def d42 : Df := ⟨"_law_product", topS 54, ["_law_one", "_law_other"], ["_law_one", "_law_other"], [], false⟩
def f42 : Fd := ⟨2, 2, (.cons (.ret (.call 40 (.cons (.bin .mul (.idx (.var 0) (.con (.int 0))) (.idx (.var 1) (.con (.int 0)))) (.cons (.bin .mul (.idx (.var 0) (.con (.int 1))) (.idx (.var 1) (.con (.int 1)))) .nil)))) .nil), false⟩
/-- _law_place -/
def d43 : Df := ⟨"_law_place", topS 56, ["_law_tape_here", "_law_kind"], ["_law_tape_here"], [], false⟩
def f43 : Fd := ⟨1, 2, (.cons (.asg 1 (.call 39 (.cons (.var 0) (.cons (.con (.int 8)) .nil)))) (.cons (.ite (.cmp .lt (.var 1) (.con (.int 6))) (.cons (.ret (.tup (.cons (.bin .sub (.call 39 (.cons (.var 0) (.cons (.con (.int 10)) .nil))) (.con (.int 3))) (.cons (.con (.int 1)) .nil)))) .nil) .nil) (.cons (.ite (.cmp .eq (.var 1) (.con (.int 6))) (.cons (.ret (.call 40 (.cons (.bin .sub (.call 39 (.cons (.var 0) (.cons (.con (.int 25)) .nil))) (.con (.int 6))) (.cons (.con (.int 2)) .nil)))) .nil) .nil) (.cons (.ret (.call 40 (.cons (.bin .sub (.call 39 (.cons (.var 0) (.cons (.con (.int 31)) .nil))) (.con (.int 9))) (.cons (.con (.int 3)) .nil)))) .nil)))), false⟩
/-- _law_span -/
def d44 : Df := ⟨"_law_span", topS 57, ["_law_tape_here", "_law_way"], ["_law_tape_here"], [], false⟩
def f44 : Fd := ⟨1, 2, (.cons (.asg 1 (.call 39 (.cons (.var 0) (.cons (.con (.int 5)) .nil)))) (.cons (.ite (.cmp .lt (.var 1) (.con (.int 3))) (.cons (.ret (.tup (.cons (.bin .add (.con (.int 1)) (.call 39 (.cons (.var 0) (.cons (.con (.int 5)) .nil)))) (.cons (.con (.int 1)) .nil)))) .nil) .nil) (.cons (.ret (.call 40 (.cons (.bin .add (.con (.int 1)) (.call 39 (.cons (.var 0) (.cons (.con (.int 8)) .nil)))) (.cons (.bin .sub (.var 1) (.con (.int 1))) .nil)))) .nil))), false⟩
/-- _law_bounds -/
def d45 : Df := ⟨"_law_bounds", topS 59, ["_law_tape_here", "_law_some"], ["_law_tape_here"], [], false⟩
def f45 : Fd := ⟨1, 2, (.cons (.asg 1 (.fr (.disp (.cons (.tup (.cons (.con (.int 0)) (.cons (.con (.int 1)) .nil))) (.cons (.tup (.cons (.con (.int 1)) (.cons (.con (.int 2)) .nil))) (.cons (.tup (.cons (.con (.int 1)) (.cons (.con (.int 1)) .nil))) (.cons (.tup (.cons (.con (.int 1)) (.cons (.con (.int 3)) .nil))) (.cons (.tup (.cons (.con (.int 3)) (.cons (.con (.int 1)) .nil))) (.cons (.tup (.cons (.con (.int 40)) (.cons (.con (.int 1)) .nil))) .nil))))))))) (.cons (.ite (.cmp .eq (.call 39 (.cons (.var 0) (.cons (.con (.int 2)) .nil))) (.con (.int 0))) (.cons (.ret (.tup (.cons (.tup (.cons (.con (.int 0)) (.cons (.con (.int 1)) .nil))) (.cons (.tup (.cons (.con (.int 0)) (.cons (.con (.int 1)) .nil))) (.cons (.tup (.cons (.con (.int 0)) (.cons (.con (.int 1)) .nil))) .nil))))) .nil) .nil) (.cons (.ret (.tup (.cons (.idx (.var 1) (.call 39 (.cons (.var 0) (.cons (.con (.int 4)) .nil)))) (.cons (.idx (.var 1) (.call 39 (.cons (.var 0) (.cons (.con (.int 4)) .nil)))) (.cons (.idx (.var 1) (.call 39 (.cons (.var 0) (.cons (.con (.int 6)) .nil)))) .nil))))) .nil))), false⟩
/-- _law_apart -/
def d46 : Df := ⟨"_law_apart", topS 60, ["_law_tape_here", "_law_some"], ["_law_tape_here"], [], false⟩
def f46 : Fd := ⟨1, 2, (.cons (.asg 1 (.fr (.disp (.cons (.tup (.cons (.con (.int 1)) (.cons (.con (.int 1)) .nil))) (.cons (.tup (.cons (.con (.int 2)) (.cons (.con (.int 1)) .nil))) (.cons (.tup (.cons (.con (.int 3)) (.cons (.con (.int 2)) .nil))) (.cons (.tup (.cons (.con (.int 1)) (.cons (.con (.int 3)) .nil))) (.cons (.tup (.cons (.con (.int 5)) (.cons (.con (.int 1)) .nil))) .nil)))))))) (.cons (.ret (.tup (.cons (.idx (.var 1) (.call 39 (.cons (.var 0) (.cons (.con (.int 5)) .nil)))) (.cons (.idx (.var 1) (.call 39 (.cons (.var 0) (.cons (.con (.int 5)) .nil)))) .nil)))) .nil)), false⟩
/-- _law_staying -/
def d47 : Df := ⟨"_law_staying", topS 61, ["_law_begin", "_law_long", "_law_spot"], ["_law_begin", "_law_long", "_law_spot"], [], false⟩
def f47 : Fd := ⟨3, 3, (.cons (.ret (.tup (.cons (.bin .add (.tup (.cons (.var 0) .nil)) (.var 2)) (.cons (.bin .add (.tup (.cons (.call 41 (.cons (.var 0) (.cons (.var 1) .nil))) .nil)) (.var 2)) .nil)))) .nil), false⟩
/-- law -/
def d48 : Df := ⟨"law", topS 62, ["_law_script", "_law_k", "_law_tape_here", "_law_apart_here", "_law_bounds_here", "_law_spot", "_law_begin", "_law_long", "_law_further", "_law_side", "_law_kind", "_law_both", "_law_reach", "_law_wait", "_law_little", "_law_sign", "_law_off_here", "_law_away", "_law_one", "_law_beside", "_law_due", "_law_behind"], ["_law_script"], [], false⟩
def f48 : Fd := ⟨1, 22, (.cons (.for1 (.name 1) (.rng1 (.bin .add (.con (.int 1)) (.blt .min2 (.cons (.con (.int 4)) (.cons (.blt .len (.cons (.var 0) .nil)) .nil))))) (.cons (.asg 2 (.call 38 (.cons (.var 0) (.cons (.var 1) .nil)))) (.cons (.asg 3 (.call 46 (.cons (.var 2) .nil))) (.cons (.asg 4 (.fr (.disp (.cons (.call 45 (.cons (.var 2) .nil)) (.cons (.call 45 (.cons (.var 2) .nil)) .nil))))) (.cons (.asg 5 (.tup (.cons (.call 43 (.cons (.var 2) .nil)) (.cons (.call 43 (.cons (.var 2) .nil)) (.cons (.call 43 (.cons (.var 2) .nil)) .nil))))) (.cons (.asg 6 (.call 43 (.cons (.var 2) .nil))) (.cons (.par [7, 8] (.cons (.call 44 (.cons (.var 2) .nil)) (.cons (.call 44 (.cons (.var 2) .nil)) .nil))) (.cons (.asg 9 (.call 39 (.cons (.var 2) (.cons (.con (.int 3)) .nil)))) (.cons (.asg 10 (.blt .int1 (.cons (.cmp .eq (.var 9) (.con (.int 2))) .nil))) (.cons (.asg 11 (.call 41 (.cons (.idx (.idx (.var 4) (.con (.int 0))) (.var 10)) (.cons (.idx (.idx (.var 4) (.con (.int 1))) (.var 10)) .nil)))) (.cons (.asg 12 (.call 41 (.cons (.idx (.var 3) (.var 10)) (.cons (.var 11) .nil)))) (.cons (.asg 13 (.call 41 (.cons (.call 41 (.cons (.var 6) (.cons (.var 7) .nil))) (.cons (.idx (.idx (.var 4) (.con (.int 0))) (.con (.int 2))) .nil)))) (.cons (.for1 (.name 14) (.seq (.fr (.disp (.cons (.tup (.cons (.con (.int 0)) (.cons (.con (.int 1)) .nil))) (.cons (.tup (.cons (.con (.int 1)) (.cons (.con (.int 1000)) .nil))) (.cons (.tup (.cons (.neg (.con (.int 1))) (.cons (.con (.int 1000)) .nil))) (.cons (.tup (.cons (.con (.int 1)) (.cons (.bin .pow (.con (.int 10)) (.con (.int 19))) .nil))) (.cons (.tup (.cons (.neg (.con (.int 1))) (.cons (.bin .pow (.con (.int 10)) (.con (.int 19))) .nil))) .nil)))))))) (.cons (.for1 (.name 15) (.seq (.fr (.disp (.cons (.con (.int 1)) (.cons (.neg (.con (.int 1))) .nil))))) (.cons (.asg 16 (.call 42 (.cons (.tup (.cons (.var 15) (.cons (.con (.int 1)) .nil))) (.cons (.call 41 (.cons (.var 12) (.cons (.var 14) .nil))) .nil)))) (.cons (.asg 17 (.bin .add (.bin .add (.slc (.var 5) .nil (.cons (.var 9) .nil)) (.tup (.cons (.call 41 (.cons (.idx (.var 5) (.var 9)) (.cons (.var 16) .nil))) .nil))) (.slc (.var 5) (.cons (.bin .add (.var 9) (.con (.int 1))) .nil) .nil))) (.cons (.asg 18 (.tup (.cons (.call 47 (.cons (.var 6) (.cons (.var 7) (.cons (.var 5) .nil)))) (.cons (.idx (.var 4) (.con (.int 0))) .nil)))) (.cons (.asg 19 (.tup (.cons (.call 47 (.cons (.var 6) (.cons (.var 8) (.cons (.var 17) .nil)))) (.cons (.idx (.var 4) (.con (.int 1))) .nil)))) (.cons (.asg 20 (.idx (.fr (.disp (.cons (.con (.str "apart")) (.cons (.con (.str "meet")) .nil)))) (.blt .int1 (.cons (.cmp .lt (.idx (.var 14) (.con (.int 0))) (.con (.int 0))) .nil)))) (.cons (.ite (.or2 (.cmp .ne (.idx (.call 37 (.cons (.var 18) (.cons (.var 19) (.cons (.var 3) .nil)))) (.con (.int 0))) (.var 20)) (.cmp .ne (.idx (.call 37 (.cons (.var 19) (.cons (.var 18) (.cons (.var 3) .nil)))) (.con (.int 0))) (.var 20))) (.cons (.ret (.con (.bool false))) .nil) .nil) .nil))))))) (.cons (.asg 21 (.tup (.cons (.call 47 (.cons (.call 41 (.cons (.var 13) (.cons (.var 14) .nil))) (.cons (.var 8) (.cons (.var 5) .nil)))) (.cons (.idx (.var 4) (.con (.int 1))) .nil)))) (.cons (.asg 20 (.idx (.fr (.disp (.cons (.con (.str "apart")) (.cons (.con (.str "meet")) .nil)))) (.blt .int1 (.cons (.cmp .lt (.idx (.var 14) (.con (.int 0))) (.con (.int 0))) .nil)))) (.cons (.ite (.or2 (.cmp .ne (.idx (.call 37 (.cons (.var 18) (.cons (.var 21) (.cons (.var 3) .nil)))) (.con (.int 0))) (.var 20)) (.cmp .ne (.idx (.call 37 (.cons (.var 21) (.cons (.var 18) (.cons (.var 3) .nil)))) (.con (.int 0))) (.var 20))) (.cons (.ret (.con (.bool false))) .nil) .nil) .nil))))) .nil))))))))))))) (.cons (.ret (.con (.bool true))) .nil)), false⟩
def ds : List Df := [d0, d1, d2, d3, d4, d5, d6, d7, d8, d9, d10, d11, d12, d13, d14, d15, d16, d17, d18, d19, d20, d21, d22, d23, d24, d25, d26, d27, d28, d29, d30, d31, d32, d33, d34, d35, d36, d37, d38, d39, d40, d41, d42, d43, d44, d45, d46, d47, d48]
def pr : Prg := [f0, f1, f2, f3, f4, f5, f6, f7, f8, f9, f10, f11, f12, f13, f14, f15, f16, f17, f18, f19, f20, f21, f22, f23, f24, f25, f26, f27, f28, f29, f30, f31, f32, f33, f34, f35, f36, f37, f38, f39, f40, f41, f42, f43, f44, f45, f46, f47, f48]
def tb : Tab := ⟨[("NONE", (.tuple [(.int 0), (.int 1)])), ("ONE", (.tuple [(.int 1), (.int 1)])), ("LESS", (.tuple [(.int (-1)), (.int 1)])), ("CLOSED", (.tuple [(.int 0), (.int 2), (.int 4), (.int 5)])), ("TWELVE", (.int 12))], (("shared_factor" : Str) :: ("part" : Str) :: ("plus" : Str) :: ("minus" : Str) :: ("times" : Str) :: ("over" : Str) :: ("before" : Str) :: ("worth_at" : Str) :: ("is_above" : Str) :: ("on_the_way" : Str) :: ("cut" : Str) :: ("cut_by" : Str) :: ("middle_of" : Str) :: ("inner_point" : Str) :: ("square_of" : Str) :: ("piece_line" : Str) :: ("span_lines" : Str) :: ("window_lines" : Str) :: ("reach_of" : Str) :: ("side_lines" : Str) :: ("twelve_lines" : Str) :: ("piece_square" : Str) :: ("far_numbers" : Str) :: ("meet_within" : Str) :: ("turn_of" : Str) :: ("sum_of" : Str) :: ("can_not_be" : Str) :: ("is_flat" : Str) :: ("single_weights" : Str) :: ("size_of" : Str) :: ("are_against" : Str) :: ("pair_weights" : Str) :: ("third_weights" : Str) :: ("triple_weights" : Str) :: ("weights_of" : Str) :: ("pieces_of" : Str) :: ("met_at" : Str) :: ("meet_of" : Str) :: ("_law_tape" : Str) :: ("_law_draw" : Str) :: ("_law_part" : Str) :: ("_law_sum" : Str) :: ("_law_product" : Str) :: ("_law_place" : Str) :: ("_law_span" : Str) :: ("_law_bounds" : Str) :: ("_law_apart" : Str) :: ("_law_staying" : Str) :: ("law" : Str) :: []), pr, ["abs", "all", "any", "enumerate", "int", "len", "min", "range", "tuple", "zip"], []⟩
theorem c0 : cD tb d0 = some f0 := by kernel_rfl
theorem s0 : FnScope d0.N d0.ps (defScope d0.st) := ⟨by kernel_rfl, by kernel_rfl, by kernel_rfl, by decide +kernel, by kernel_rfl, by decide +kernel, by decide +kernel⟩
theorem c1 : cD tb d1 = some f1 := by kernel_rfl
theorem s1 : FnScope d1.N d1.ps (defScope d1.st) := ⟨by kernel_rfl, by kernel_rfl, by kernel_rfl, by decide +kernel, by kernel_rfl, by decide +kernel, by decide +kernel⟩
theorem c2 : cD tb d2 = some f2 := by kernel_rfl
theorem s2 : FnScope d2.N d2.ps (defScope d2.st) := ⟨by kernel_rfl, by kernel_rfl, by kernel_rfl, by decide +kernel, by kernel_rfl, by decide +kernel, by decide +kernel⟩
theorem c3 : cD tb d3 = some f3 := by kernel_rfl
theorem s3 : FnScope d3.N d3.ps (defScope d3.st) := ⟨by kernel_rfl, by kernel_rfl, by kernel_rfl, by decide +kernel, by kernel_rfl, by decide +kernel, by decide +kernel⟩
theorem c4 : cD tb d4 = some f4 := by kernel_rfl
theorem s4 : FnScope d4.N d4.ps (defScope d4.st) := ⟨by kernel_rfl, by kernel_rfl, by kernel_rfl, by decide +kernel, by kernel_rfl, by decide +kernel, by decide +kernel⟩
theorem c5 : cD tb d5 = some f5 := by kernel_rfl
theorem s5 : FnScope d5.N d5.ps (defScope d5.st) := ⟨by kernel_rfl, by kernel_rfl, by kernel_rfl, by decide +kernel, by kernel_rfl, by decide +kernel, by decide +kernel⟩
theorem c6 : cD tb d6 = some f6 := by kernel_rfl
theorem s6 : FnScope d6.N d6.ps (defScope d6.st) := ⟨by kernel_rfl, by kernel_rfl, by kernel_rfl, by decide +kernel, by kernel_rfl, by decide +kernel, by decide +kernel⟩
theorem c7 : cD tb d7 = some f7 := by kernel_rfl
theorem s7 : FnScope d7.N d7.ps (defScope d7.st) := ⟨by kernel_rfl, by kernel_rfl, by kernel_rfl, by decide +kernel, by kernel_rfl, by decide +kernel, by decide +kernel⟩
theorem c8 : cD tb d8 = some f8 := by kernel_rfl
theorem s8 : FnScope d8.N d8.ps (defScope d8.st) := ⟨by kernel_rfl, by kernel_rfl, by kernel_rfl, by decide +kernel, by kernel_rfl, by decide +kernel, by decide +kernel⟩
theorem c9 : cD tb d9 = some f9 := by kernel_rfl
theorem s9 : FnScope d9.N d9.ps (defScope d9.st) := ⟨by kernel_rfl, by kernel_rfl, by kernel_rfl, by decide +kernel, by kernel_rfl, by decide +kernel, by decide +kernel⟩
theorem c10 : cD tb d10 = some f10 := by kernel_rfl
theorem s10 : FnScope d10.N d10.ps (defScope d10.st) := ⟨by kernel_rfl, by kernel_rfl, by kernel_rfl, by decide +kernel, by kernel_rfl, by decide +kernel, by decide +kernel⟩
theorem c11 : cD tb d11 = some f11 := by kernel_rfl
theorem s11 : FnScope d11.N d11.ps (defScope d11.st) := ⟨by kernel_rfl, by kernel_rfl, by kernel_rfl, by decide +kernel, by kernel_rfl, by decide +kernel, by decide +kernel⟩
theorem c12 : cD tb d12 = some f12 := by kernel_rfl
theorem s12 : FnScope d12.N d12.ps (defScope d12.st) := ⟨by kernel_rfl, by kernel_rfl, by kernel_rfl, by decide +kernel, by kernel_rfl, by decide +kernel, by decide +kernel⟩
theorem c13 : cD tb d13 = some f13 := by kernel_rfl
theorem s13 : FnScope d13.N d13.ps (defScope d13.st) := ⟨by kernel_rfl, by kernel_rfl, by kernel_rfl, by decide +kernel, by kernel_rfl, by decide +kernel, by decide +kernel⟩
theorem c14 : cD tb d14 = some f14 := by kernel_rfl
theorem s14 : FnScope d14.N d14.ps (defScope d14.st) := ⟨by kernel_rfl, by kernel_rfl, by kernel_rfl, by decide +kernel, by kernel_rfl, by decide +kernel, by decide +kernel⟩
theorem c15 : cD tb d15 = some f15 := by kernel_rfl
theorem s15 : FnScope d15.N d15.ps (defScope d15.st) := ⟨by kernel_rfl, by kernel_rfl, by kernel_rfl, by decide +kernel, by kernel_rfl, by decide +kernel, by decide +kernel⟩
theorem c16 : cD tb d16 = some f16 := by kernel_rfl
theorem s16 : FnScope d16.N d16.ps (defScope d16.st) := ⟨by kernel_rfl, by kernel_rfl, by kernel_rfl, by decide +kernel, by kernel_rfl, by decide +kernel, by decide +kernel⟩
theorem c17 : cD tb d17 = some f17 := by kernel_rfl
theorem s17 : FnScope d17.N d17.ps (defScope d17.st) := ⟨by kernel_rfl, by kernel_rfl, by kernel_rfl, by decide +kernel, by kernel_rfl, by decide +kernel, by decide +kernel⟩
theorem c18 : cD tb d18 = some f18 := by kernel_rfl
theorem s18 : FnScope d18.N d18.ps (defScope d18.st) := ⟨by kernel_rfl, by kernel_rfl, by kernel_rfl, by decide +kernel, by kernel_rfl, by decide +kernel, by decide +kernel⟩
theorem c19 : cD tb d19 = some f19 := by kernel_rfl
theorem s19 : FnScope d19.N d19.ps (defScope d19.st) := ⟨by kernel_rfl, by kernel_rfl, by kernel_rfl, by decide +kernel, by kernel_rfl, by decide +kernel, by decide +kernel⟩
theorem c20 : cD tb d20 = some f20 := by kernel_rfl
theorem s20 : FnScope d20.N d20.ps (defScope d20.st) := ⟨by kernel_rfl, by kernel_rfl, by kernel_rfl, by decide +kernel, by kernel_rfl, by decide +kernel, by decide +kernel⟩
theorem c21 : cD tb d21 = some f21 := by kernel_rfl
theorem s21 : FnScope d21.N d21.ps (defScope d21.st) := ⟨by kernel_rfl, by kernel_rfl, by kernel_rfl, by decide +kernel, by kernel_rfl, by decide +kernel, by decide +kernel⟩
theorem c22 : cD tb d22 = some f22 := by kernel_rfl
theorem s22 : FnScope d22.N d22.ps (defScope d22.st) := ⟨by kernel_rfl, by kernel_rfl, by kernel_rfl, by decide +kernel, by kernel_rfl, by decide +kernel, by decide +kernel⟩
theorem c23 : cD tb d23 = some f23 := by kernel_rfl
theorem s23 : FnScope d23.N d23.ps (defScope d23.st) := ⟨by kernel_rfl, by kernel_rfl, by kernel_rfl, by decide +kernel, by kernel_rfl, by decide +kernel, by decide +kernel⟩
theorem c24 : cD tb d24 = some f24 := by kernel_rfl
theorem s24 : FnScope d24.N d24.ps (defScope d24.st) := ⟨by kernel_rfl, by kernel_rfl, by kernel_rfl, by decide +kernel, by kernel_rfl, by decide +kernel, by decide +kernel⟩
theorem c25 : cD tb d25 = some f25 := by kernel_rfl
theorem s25 : FnScope d25.N d25.ps (defScope d25.st) := ⟨by kernel_rfl, by kernel_rfl, by kernel_rfl, by decide +kernel, by kernel_rfl, by decide +kernel, by decide +kernel⟩
theorem c26 : cD tb d26 = some f26 := by kernel_rfl
theorem s26 : FnScope d26.N d26.ps (defScope d26.st) := ⟨by kernel_rfl, by kernel_rfl, by kernel_rfl, by decide +kernel, by kernel_rfl, by decide +kernel, by decide +kernel⟩
theorem c27 : cD tb d27 = some f27 := by kernel_rfl
theorem s27 : FnScope d27.N d27.ps (defScope d27.st) := ⟨by kernel_rfl, by kernel_rfl, by kernel_rfl, by decide +kernel, by kernel_rfl, by decide +kernel, by decide +kernel⟩
theorem c28 : cD tb d28 = some f28 := by kernel_rfl
theorem s28 : FnScope d28.N d28.ps (defScope d28.st) := ⟨by kernel_rfl, by kernel_rfl, by kernel_rfl, by decide +kernel, by kernel_rfl, by decide +kernel, by decide +kernel⟩
theorem c29 : cD tb d29 = some f29 := by kernel_rfl
theorem s29 : FnScope d29.N d29.ps (defScope d29.st) := ⟨by kernel_rfl, by kernel_rfl, by kernel_rfl, by decide +kernel, by kernel_rfl, by decide +kernel, by decide +kernel⟩
theorem c30 : cD tb d30 = some f30 := by kernel_rfl
theorem s30 : FnScope d30.N d30.ps (defScope d30.st) := ⟨by kernel_rfl, by kernel_rfl, by kernel_rfl, by decide +kernel, by kernel_rfl, by decide +kernel, by decide +kernel⟩
theorem c31 : cD tb d31 = some f31 := by kernel_rfl
theorem s31 : FnScope d31.N d31.ps (defScope d31.st) := ⟨by kernel_rfl, by kernel_rfl, by kernel_rfl, by decide +kernel, by kernel_rfl, by decide +kernel, by decide +kernel⟩
theorem c32 : cD tb d32 = some f32 := by kernel_rfl
theorem s32 : FnScope d32.N d32.ps (defScope d32.st) := ⟨by kernel_rfl, by kernel_rfl, by kernel_rfl, by decide +kernel, by kernel_rfl, by decide +kernel, by decide +kernel⟩
theorem c33 : cD tb d33 = some f33 := by kernel_rfl
theorem s33 : FnScope d33.N d33.ps (defScope d33.st) := ⟨by kernel_rfl, by kernel_rfl, by kernel_rfl, by decide +kernel, by kernel_rfl, by decide +kernel, by decide +kernel⟩
theorem c34 : cD tb d34 = some f34 := by kernel_rfl
theorem s34 : FnScope d34.N d34.ps (defScope d34.st) := ⟨by kernel_rfl, by kernel_rfl, by kernel_rfl, by decide +kernel, by kernel_rfl, by decide +kernel, by decide +kernel⟩
theorem c35 : cD tb d35 = some f35 := by kernel_rfl
theorem s35 : FnScope d35.N d35.ps (defScope d35.st) := ⟨by kernel_rfl, by kernel_rfl, by kernel_rfl, by decide +kernel, by kernel_rfl, by decide +kernel, by decide +kernel⟩
theorem c36 : cD tb d36 = some f36 := by kernel_rfl
theorem s36 : FnScope d36.N d36.ps (defScope d36.st) := ⟨by kernel_rfl, by kernel_rfl, by kernel_rfl, by decide +kernel, by kernel_rfl, by decide +kernel, by decide +kernel⟩
theorem c37 : cD tb d37 = some f37 := by kernel_rfl
theorem s37 : FnScope d37.N d37.ps (defScope d37.st) := ⟨by kernel_rfl, by kernel_rfl, by kernel_rfl, by decide +kernel, by kernel_rfl, by decide +kernel, by decide +kernel⟩
theorem c38 : cD tb d38 = some f38 := by kernel_rfl
theorem s38 : FnScope d38.N d38.ps (defScope d38.st) := ⟨by kernel_rfl, by kernel_rfl, by kernel_rfl, by decide +kernel, by kernel_rfl, by decide +kernel, by decide +kernel⟩
theorem c39 : cD tb d39 = some f39 := by kernel_rfl
theorem s39 : FnScope d39.N d39.ps (defScope d39.st) := ⟨by kernel_rfl, by kernel_rfl, by kernel_rfl, by decide +kernel, by kernel_rfl, by decide +kernel, by decide +kernel⟩
theorem c40 : cD tb d40 = some f40 := by kernel_rfl
theorem s40 : FnScope d40.N d40.ps (defScope d40.st) := ⟨by kernel_rfl, by kernel_rfl, by kernel_rfl, by decide +kernel, by kernel_rfl, by decide +kernel, by decide +kernel⟩
theorem c41 : cD tb d41 = some f41 := by kernel_rfl
theorem s41 : FnScope d41.N d41.ps (defScope d41.st) := ⟨by kernel_rfl, by kernel_rfl, by kernel_rfl, by decide +kernel, by kernel_rfl, by decide +kernel, by decide +kernel⟩
theorem c42 : cD tb d42 = some f42 := by kernel_rfl
theorem s42 : FnScope d42.N d42.ps (defScope d42.st) := ⟨by kernel_rfl, by kernel_rfl, by kernel_rfl, by decide +kernel, by kernel_rfl, by decide +kernel, by decide +kernel⟩
theorem c43 : cD tb d43 = some f43 := by kernel_rfl
theorem s43 : FnScope d43.N d43.ps (defScope d43.st) := ⟨by kernel_rfl, by kernel_rfl, by kernel_rfl, by decide +kernel, by kernel_rfl, by decide +kernel, by decide +kernel⟩
theorem c44 : cD tb d44 = some f44 := by kernel_rfl
theorem s44 : FnScope d44.N d44.ps (defScope d44.st) := ⟨by kernel_rfl, by kernel_rfl, by kernel_rfl, by decide +kernel, by kernel_rfl, by decide +kernel, by decide +kernel⟩
theorem c45 : cD tb d45 = some f45 := by kernel_rfl
theorem s45 : FnScope d45.N d45.ps (defScope d45.st) := ⟨by kernel_rfl, by kernel_rfl, by kernel_rfl, by decide +kernel, by kernel_rfl, by decide +kernel, by decide +kernel⟩
theorem c46 : cD tb d46 = some f46 := by kernel_rfl
theorem s46 : FnScope d46.N d46.ps (defScope d46.st) := ⟨by kernel_rfl, by kernel_rfl, by kernel_rfl, by decide +kernel, by kernel_rfl, by decide +kernel, by decide +kernel⟩
theorem c47 : cD tb d47 = some f47 := by kernel_rfl
theorem s47 : FnScope d47.N d47.ps (defScope d47.st) := ⟨by kernel_rfl, by kernel_rfl, by kernel_rfl, by decide +kernel, by kernel_rfl, by decide +kernel, by decide +kernel⟩
theorem c48 : cD tb d48 = some f48 := by kernel_rfl
theorem s48 : FnScope d48.N d48.ps (defScope d48.st) := ⟨by kernel_rfl, by kernel_rfl, by kernel_rfl, by decide +kernel, by kernel_rfl, by decide +kernel, by decide +kernel⟩
theorem codes : Codes tb ds pr := ⟨c0, ⟨c1, ⟨c2, ⟨c3, ⟨c4, ⟨c5, ⟨c6, ⟨c7, ⟨c8, ⟨c9, ⟨c10, ⟨c11, ⟨c12, ⟨c13, ⟨c14, ⟨c15, ⟨c16, ⟨c17, ⟨c18, ⟨c19, ⟨c20, ⟨c21, ⟨c22, ⟨c23, ⟨c24, ⟨c25, ⟨c26, ⟨c27, ⟨c28, ⟨c29, ⟨c30, ⟨c31, ⟨c32, ⟨c33, ⟨c34, ⟨c35, ⟨c36, ⟨c37, ⟨c38, ⟨c39, ⟨c40, ⟨c41, ⟨c42, ⟨c43, ⟨c44, ⟨c45, ⟨c46, ⟨c47, ⟨c48, trivial⟩⟩⟩⟩⟩⟩⟩⟩⟩⟩⟩⟩⟩⟩⟩⟩⟩⟩⟩⟩⟩⟩⟩⟩⟩⟩⟩⟩⟩⟩⟩⟩⟩⟩⟩⟩⟩⟩⟩⟩⟩⟩⟩⟩⟩⟩⟩⟩⟩
theorem scopes : ∀ d ∈ ds, FnScope d.N d.ps (defScope d.st) := List.forall_mem_cons.mpr ⟨s0, List.forall_mem_cons.mpr ⟨s1, List.forall_mem_cons.mpr ⟨s2, List.forall_mem_cons.mpr ⟨s3, List.forall_mem_cons.mpr ⟨s4, List.forall_mem_cons.mpr ⟨s5, List.forall_mem_cons.mpr ⟨s6, List.forall_mem_cons.mpr ⟨s7, List.forall_mem_cons.mpr ⟨s8, List.forall_mem_cons.mpr ⟨s9, List.forall_mem_cons.mpr ⟨s10, List.forall_mem_cons.mpr ⟨s11, List.forall_mem_cons.mpr ⟨s12, List.forall_mem_cons.mpr ⟨s13, List.forall_mem_cons.mpr ⟨s14, List.forall_mem_cons.mpr ⟨s15, List.forall_mem_cons.mpr ⟨s16, List.forall_mem_cons.mpr ⟨s17, List.forall_mem_cons.mpr ⟨s18, List.forall_mem_cons.mpr ⟨s19, List.forall_mem_cons.mpr ⟨s20, List.forall_mem_cons.mpr ⟨s21, List.forall_mem_cons.mpr ⟨s22, List.forall_mem_cons.mpr ⟨s23, List.forall_mem_cons.mpr ⟨s24, List.forall_mem_cons.mpr ⟨s25, List.forall_mem_cons.mpr ⟨s26, List.forall_mem_cons.mpr ⟨s27, List.forall_mem_cons.mpr ⟨s28, List.forall_mem_cons.mpr ⟨s29, List.forall_mem_cons.mpr ⟨s30, List.forall_mem_cons.mpr ⟨s31, List.forall_mem_cons.mpr ⟨s32, List.forall_mem_cons.mpr ⟨s33, List.forall_mem_cons.mpr ⟨s34, List.forall_mem_cons.mpr ⟨s35, List.forall_mem_cons.mpr ⟨s36, List.forall_mem_cons.mpr ⟨s37, List.forall_mem_cons.mpr ⟨s38, List.forall_mem_cons.mpr ⟨s39, List.forall_mem_cons.mpr ⟨s40, List.forall_mem_cons.mpr ⟨s41, List.forall_mem_cons.mpr ⟨s42, List.forall_mem_cons.mpr ⟨s43, List.forall_mem_cons.mpr ⟨s44, List.forall_mem_cons.mpr ⟨s45, List.forall_mem_cons.mpr ⟨s46, List.forall_mem_cons.mpr ⟨s47, List.forall_mem_cons.mpr ⟨s48, fun _ h => (by cases h)⟩⟩⟩⟩⟩⟩⟩⟩⟩⟩⟩⟩⟩⟩⟩⟩⟩⟩⟩⟩⟩⟩⟩⟩⟩⟩⟩⟩⟩⟩⟩⟩⟩⟩⟩⟩⟩⟩⟩⟩⟩⟩⟩⟩⟩⟩⟩⟩⟩
theorem p0 : pr[0]? = some f0 := rfl
abbrev i_shared_factor : Nat := 0
abbrev f_shared_factor : Fd := f0
theorem P_shared_factor : pr[i_shared_factor]? = some f_shared_factor := p0
theorem p1 : pr[1]? = some f1 := rfl
abbrev i_part : Nat := 1
abbrev f_part : Fd := f1
theorem P_part : pr[i_part]? = some f_part := p1
theorem p2 : pr[2]? = some f2 := rfl
abbrev i_plus : Nat := 2
abbrev f_plus : Fd := f2
theorem P_plus : pr[i_plus]? = some f_plus := p2
theorem p3 : pr[3]? = some f3 := rfl
abbrev i_minus : Nat := 3
abbrev f_minus : Fd := f3
theorem P_minus : pr[i_minus]? = some f_minus := p3
theorem p4 : pr[4]? = some f4 := rfl
abbrev i_times : Nat := 4
abbrev f_times : Fd := f4
theorem P_times : pr[i_times]? = some f_times := p4
theorem p5 : pr[5]? = some f5 := rfl
abbrev i_over : Nat := 5
abbrev f_over : Fd := f5
theorem P_over : pr[i_over]? = some f_over := p5
theorem p6 : pr[6]? = some f6 := rfl
abbrev i_before : Nat := 6
abbrev f_before : Fd := f6
theorem P_before : pr[i_before]? = some f_before := p6
theorem p7 : pr[7]? = some f7 := rfl
abbrev i_worth_at : Nat := 7
abbrev f_worth_at : Fd := f7
theorem P_worth_at : pr[i_worth_at]? = some f_worth_at := p7
theorem p8 : pr[8]? = some f8 := rfl
abbrev i_is_above : Nat := 8
abbrev f_is_above : Fd := f8
theorem P_is_above : pr[i_is_above]? = some f_is_above := p8
theorem p9 : pr[9]? = some f9 := rfl
abbrev i_on_the_way : Nat := 9
abbrev f_on_the_way : Fd := f9
theorem P_on_the_way : pr[i_on_the_way]? = some f_on_the_way := p9
theorem p10 : pr[10]? = some f10 := rfl
abbrev i_cut : Nat := 10
abbrev f_cut : Fd := f10
theorem P_cut : pr[i_cut]? = some f_cut := p10
theorem p11 : pr[11]? = some f11 := rfl
abbrev i_cut_by : Nat := 11
abbrev f_cut_by : Fd := f11
theorem P_cut_by : pr[i_cut_by]? = some f_cut_by := p11
theorem p12 : pr[12]? = some f12 := rfl
abbrev i_middle_of : Nat := 12
abbrev f_middle_of : Fd := f12
theorem P_middle_of : pr[i_middle_of]? = some f_middle_of := p12
theorem p13 : pr[13]? = some f13 := rfl
abbrev i_inner_point : Nat := 13
abbrev f_inner_point : Fd := f13
theorem P_inner_point : pr[i_inner_point]? = some f_inner_point := p13
theorem p14 : pr[14]? = some f14 := rfl
abbrev i_square_of : Nat := 14
abbrev f_square_of : Fd := f14
theorem P_square_of : pr[i_square_of]? = some f_square_of := p14
theorem p15 : pr[15]? = some f15 := rfl
abbrev i_piece_line : Nat := 15
abbrev f_piece_line : Fd := f15
theorem P_piece_line : pr[i_piece_line]? = some f_piece_line := p15
theorem p16 : pr[16]? = some f16 := rfl
abbrev i_span_lines : Nat := 16
abbrev f_span_lines : Fd := f16
theorem P_span_lines : pr[i_span_lines]? = some f_span_lines := p16
theorem p17 : pr[17]? = some f17 := rfl
abbrev i_window_lines : Nat := 17
abbrev f_window_lines : Fd := f17
theorem P_window_lines : pr[i_window_lines]? = some f_window_lines := p17
theorem p18 : pr[18]? = some f18 := rfl
abbrev i_reach_of : Nat := 18
abbrev f_reach_of : Fd := f18
theorem P_reach_of : pr[i_reach_of]? = some f_reach_of := p18
theorem p19 : pr[19]? = some f19 := rfl
abbrev i_side_lines : Nat := 19
abbrev f_side_lines : Fd := f19
theorem P_side_lines : pr[i_side_lines]? = some f_side_lines := p19
theorem p20 : pr[20]? = some f20 := rfl
abbrev i_twelve_lines : Nat := 20
abbrev f_twelve_lines : Fd := f20
theorem P_twelve_lines : pr[i_twelve_lines]? = some f_twelve_lines := p20
theorem p21 : pr[21]? = some f21 := rfl
abbrev i_piece_square : Nat := 21
abbrev f_piece_square : Fd := f21
theorem P_piece_square : pr[i_piece_square]? = some f_piece_square := p21
theorem p22 : pr[22]? = some f22 := rfl
abbrev i_far_numbers : Nat := 22
abbrev f_far_numbers : Fd := f22
theorem P_far_numbers : pr[i_far_numbers]? = some f_far_numbers := p22
theorem p23 : pr[23]? = some f23 := rfl
abbrev i_meet_within : Nat := 23
abbrev f_meet_within : Fd := f23
theorem P_meet_within : pr[i_meet_within]? = some f_meet_within := p23
theorem p24 : pr[24]? = some f24 := rfl
abbrev i_turn_of : Nat := 24
abbrev f_turn_of : Fd := f24
theorem P_turn_of : pr[i_turn_of]? = some f_turn_of := p24
theorem p25 : pr[25]? = some f25 := rfl
abbrev i_sum_of : Nat := 25
abbrev f_sum_of : Fd := f25
theorem P_sum_of : pr[i_sum_of]? = some f_sum_of := p25
theorem p26 : pr[26]? = some f26 := rfl
abbrev i_can_not_be : Nat := 26
abbrev f_can_not_be : Fd := f26
theorem P_can_not_be : pr[i_can_not_be]? = some f_can_not_be := p26
theorem p27 : pr[27]? = some f27 := rfl
abbrev i_is_flat : Nat := 27
abbrev f_is_flat : Fd := f27
theorem P_is_flat : pr[i_is_flat]? = some f_is_flat := p27
theorem p28 : pr[28]? = some f28 := rfl
abbrev i_single_weights : Nat := 28
abbrev f_single_weights : Fd := f28
theorem P_single_weights : pr[i_single_weights]? = some f_single_weights := p28
theorem p29 : pr[29]? = some f29 := rfl
abbrev i_size_of : Nat := 29
abbrev f_size_of : Fd := f29
theorem P_size_of : pr[i_size_of]? = some f_size_of := p29
theorem p30 : pr[30]? = some f30 := rfl
abbrev i_are_against : Nat := 30
abbrev f_are_against : Fd := f30
theorem P_are_against : pr[i_are_against]? = some f_are_against := p30
theorem p31 : pr[31]? = some f31 := rfl
abbrev i_pair_weights : Nat := 31
abbrev f_pair_weights : Fd := f31
theorem P_pair_weights : pr[i_pair_weights]? = some f_pair_weights := p31
theorem p32 : pr[32]? = some f32 := rfl
abbrev i_third_weights : Nat := 32
abbrev f_third_weights : Fd := f32
theorem P_third_weights : pr[i_third_weights]? = some f_third_weights := p32
theorem p33 : pr[33]? = some f33 := rfl
abbrev i_triple_weights : Nat := 33
abbrev f_triple_weights : Fd := f33
theorem P_triple_weights : pr[i_triple_weights]? = some f_triple_weights := p33
theorem p34 : pr[34]? = some f34 := rfl
abbrev i_weights_of : Nat := 34
abbrev f_weights_of : Fd := f34
theorem P_weights_of : pr[i_weights_of]? = some f_weights_of := p34
theorem p35 : pr[35]? = some f35 := rfl
abbrev i_pieces_of : Nat := 35
abbrev f_pieces_of : Fd := f35
theorem P_pieces_of : pr[i_pieces_of]? = some f_pieces_of := p35
theorem p36 : pr[36]? = some f36 := rfl
abbrev i_met_at : Nat := 36
abbrev f_met_at : Fd := f36
theorem P_met_at : pr[i_met_at]? = some f_met_at := p36
theorem p37 : pr[37]? = some f37 := rfl
abbrev i_meet_of : Nat := 37
abbrev f_meet_of : Fd := f37
theorem P_meet_of : pr[i_meet_of]? = some f_meet_of := p37
theorem p38 : pr[38]? = some f38 := rfl
abbrev i__law_tape : Nat := 38
abbrev f__law_tape : Fd := f38
theorem P__law_tape : pr[i__law_tape]? = some f__law_tape := p38
theorem p39 : pr[39]? = some f39 := rfl
abbrev i__law_draw : Nat := 39
abbrev f__law_draw : Fd := f39
theorem P__law_draw : pr[i__law_draw]? = some f__law_draw := p39
theorem p40 : pr[40]? = some f40 := rfl
abbrev i__law_part : Nat := 40
abbrev f__law_part : Fd := f40
theorem P__law_part : pr[i__law_part]? = some f__law_part := p40
theorem p41 : pr[41]? = some f41 := rfl
abbrev i__law_sum : Nat := 41
abbrev f__law_sum : Fd := f41
theorem P__law_sum : pr[i__law_sum]? = some f__law_sum := p41
theorem p42 : pr[42]? = some f42 := rfl
abbrev i__law_product : Nat := 42
abbrev f__law_product : Fd := f42
theorem P__law_product : pr[i__law_product]? = some f__law_product := p42
theorem p43 : pr[43]? = some f43 := rfl
abbrev i__law_place : Nat := 43
abbrev f__law_place : Fd := f43
theorem P__law_place : pr[i__law_place]? = some f__law_place := p43
theorem p44 : pr[44]? = some f44 := rfl
abbrev i__law_span : Nat := 44
abbrev f__law_span : Fd := f44
theorem P__law_span : pr[i__law_span]? = some f__law_span := p44
theorem p45 : pr[45]? = some f45 := rfl
abbrev i__law_bounds : Nat := 45
abbrev f__law_bounds : Fd := f45
theorem P__law_bounds : pr[i__law_bounds]? = some f__law_bounds := p45
theorem p46 : pr[46]? = some f46 := rfl
abbrev i__law_apart : Nat := 46
abbrev f__law_apart : Fd := f46
theorem P__law_apart : pr[i__law_apart]? = some f__law_apart := p46
theorem p47 : pr[47]? = some f47 := rfl
abbrev i__law_staying : Nat := 47
abbrev f__law_staying : Fd := f47
theorem P__law_staying : pr[i__law_staying]? = some f__law_staying := p47
theorem p48 : pr[48]? = some f48 := rfl
abbrev i_law : Nat := 48
abbrev f_law : Fd := f48
theorem P_law : pr[i_law]? = some f_law := p48
theorem top {pm : Params} {h : Heap} {K : PySem.W.Frag} {mg : Str → Option Value} (X : K.In h) (G : h.Ns mainGlobals mg)
    {g0 : Addr} {oc0 kV0 dc0 pm0 cd0 ct0 : Value} {od0 an0 : Option Addr} {sl0 : Array (Option Value)}
    (a0 : PySem.W.nsIn K mainGlobals "shared_factor" = some (some (.ref g0))) (l0 : K.lookup g0 = some ⟨oc0, od0, .func (PySem.W.fnOf "shared_factor" "shared_factor" (defArgs (topS 1)) (defBody (topS 1)) (defScope (topS 1)) .none kV0 dc0 pm0 an0 cd0 ct0), sl0⟩)
    (q0 : PySem.W.codeIn K cd0 "shared_factor" = true) (k0 : PySem.W.keepIn K (.ref g0) = true)
    {g1 : Addr} {oc1 kV1 dc1 pm1 cd1 ct1 : Value} {od1 an1 : Option Addr} {sl1 : Array (Option Value)}
    (a1 : PySem.W.nsIn K mainGlobals "part" = some (some (.ref g1))) (l1 : K.lookup g1 = some ⟨oc1, od1, .func (PySem.W.fnOf "part" "part" (defArgs (topS 2)) (defBody (topS 2)) (defScope (topS 2)) .none kV1 dc1 pm1 an1 cd1 ct1), sl1⟩)
    (q1 : PySem.W.codeIn K cd1 "part" = true) (k1 : PySem.W.keepIn K (.ref g1) = true)
    {g2 : Addr} {oc2 kV2 dc2 pm2 cd2 ct2 : Value} {od2 an2 : Option Addr} {sl2 : Array (Option Value)}
    (a2 : PySem.W.nsIn K mainGlobals "plus" = some (some (.ref g2))) (l2 : K.lookup g2 = some ⟨oc2, od2, .func (PySem.W.fnOf "plus" "plus" (defArgs (topS 3)) (defBody (topS 3)) (defScope (topS 3)) .none kV2 dc2 pm2 an2 cd2 ct2), sl2⟩)
    (q2 : PySem.W.codeIn K cd2 "plus" = true) (k2 : PySem.W.keepIn K (.ref g2) = true)
    {g3 : Addr} {oc3 kV3 dc3 pm3 cd3 ct3 : Value} {od3 an3 : Option Addr} {sl3 : Array (Option Value)}
    (a3 : PySem.W.nsIn K mainGlobals "minus" = some (some (.ref g3))) (l3 : K.lookup g3 = some ⟨oc3, od3, .func (PySem.W.fnOf "minus" "minus" (defArgs (topS 4)) (defBody (topS 4)) (defScope (topS 4)) .none kV3 dc3 pm3 an3 cd3 ct3), sl3⟩)
    (q3 : PySem.W.codeIn K cd3 "minus" = true) (k3 : PySem.W.keepIn K (.ref g3) = true)
    {g4 : Addr} {oc4 kV4 dc4 pm4 cd4 ct4 : Value} {od4 an4 : Option Addr} {sl4 : Array (Option Value)}
    (a4 : PySem.W.nsIn K mainGlobals "times" = some (some (.ref g4))) (l4 : K.lookup g4 = some ⟨oc4, od4, .func (PySem.W.fnOf "times" "times" (defArgs (topS 5)) (defBody (topS 5)) (defScope (topS 5)) .none kV4 dc4 pm4 an4 cd4 ct4), sl4⟩)
    (q4 : PySem.W.codeIn K cd4 "times" = true) (k4 : PySem.W.keepIn K (.ref g4) = true)
    {g5 : Addr} {oc5 kV5 dc5 pm5 cd5 ct5 : Value} {od5 an5 : Option Addr} {sl5 : Array (Option Value)}
    (a5 : PySem.W.nsIn K mainGlobals "over" = some (some (.ref g5))) (l5 : K.lookup g5 = some ⟨oc5, od5, .func (PySem.W.fnOf "over" "over" (defArgs (topS 6)) (defBody (topS 6)) (defScope (topS 6)) .none kV5 dc5 pm5 an5 cd5 ct5), sl5⟩)
    (q5 : PySem.W.codeIn K cd5 "over" = true) (k5 : PySem.W.keepIn K (.ref g5) = true)
    {g6 : Addr} {oc6 kV6 dc6 pm6 cd6 ct6 : Value} {od6 an6 : Option Addr} {sl6 : Array (Option Value)}
    (a6 : PySem.W.nsIn K mainGlobals "before" = some (some (.ref g6))) (l6 : K.lookup g6 = some ⟨oc6, od6, .func (PySem.W.fnOf "before" "before" (defArgs (topS 7)) (defBody (topS 7)) (defScope (topS 7)) .none kV6 dc6 pm6 an6 cd6 ct6), sl6⟩)
    (q6 : PySem.W.codeIn K cd6 "before" = true) (k6 : PySem.W.keepIn K (.ref g6) = true)
    {g7 : Addr} {oc7 kV7 dc7 pm7 cd7 ct7 : Value} {od7 an7 : Option Addr} {sl7 : Array (Option Value)}
    (a7 : PySem.W.nsIn K mainGlobals "worth_at" = some (some (.ref g7))) (l7 : K.lookup g7 = some ⟨oc7, od7, .func (PySem.W.fnOf "worth_at" "worth_at" (defArgs (topS 14)) (defBody (topS 14)) (defScope (topS 14)) .none kV7 dc7 pm7 an7 cd7 ct7), sl7⟩)
    (q7 : PySem.W.codeIn K cd7 "worth_at" = true) (k7 : PySem.W.keepIn K (.ref g7) = true)
    {g8 : Addr} {oc8 kV8 dc8 pm8 cd8 ct8 : Value} {od8 an8 : Option Addr} {sl8 : Array (Option Value)}
    (a8 : PySem.W.nsIn K mainGlobals "is_above" = some (some (.ref g8))) (l8 : K.lookup g8 = some ⟨oc8, od8, .func (PySem.W.fnOf "is_above" "is_above" (defArgs (topS 15)) (defBody (topS 15)) (defScope (topS 15)) .none kV8 dc8 pm8 an8 cd8 ct8), sl8⟩)
    (q8 : PySem.W.codeIn K cd8 "is_above" = true) (k8 : PySem.W.keepIn K (.ref g8) = true)
    {g9 : Addr} {oc9 kV9 dc9 pm9 cd9 ct9 : Value} {od9 an9 : Option Addr} {sl9 : Array (Option Value)}
    (a9 : PySem.W.nsIn K mainGlobals "on_the_way" = some (some (.ref g9))) (l9 : K.lookup g9 = some ⟨oc9, od9, .func (PySem.W.fnOf "on_the_way" "on_the_way" (defArgs (topS 16)) (defBody (topS 16)) (defScope (topS 16)) .none kV9 dc9 pm9 an9 cd9 ct9), sl9⟩)
    (q9 : PySem.W.codeIn K cd9 "on_the_way" = true) (k9 : PySem.W.keepIn K (.ref g9) = true)
    {g10 : Addr} {oc10 kV10 dc10 pm10 cd10 ct10 : Value} {od10 an10 : Option Addr} {sl10 : Array (Option Value)}
    (a10 : PySem.W.nsIn K mainGlobals "cut" = some (some (.ref g10))) (l10 : K.lookup g10 = some ⟨oc10, od10, .func (PySem.W.fnOf "cut" "cut" (defArgs (topS 17)) (defBody (topS 17)) (defScope (topS 17)) .none kV10 dc10 pm10 an10 cd10 ct10), sl10⟩)
    (q10 : PySem.W.codeIn K cd10 "cut" = true) (k10 : PySem.W.keepIn K (.ref g10) = true)
    {g11 : Addr} {oc11 kV11 dc11 pm11 cd11 ct11 : Value} {od11 an11 : Option Addr} {sl11 : Array (Option Value)}
    (a11 : PySem.W.nsIn K mainGlobals "cut_by" = some (some (.ref g11))) (l11 : K.lookup g11 = some ⟨oc11, od11, .func (PySem.W.fnOf "cut_by" "cut_by" (defArgs (topS 18)) (defBody (topS 18)) (defScope (topS 18)) .none kV11 dc11 pm11 an11 cd11 ct11), sl11⟩)
    (q11 : PySem.W.codeIn K cd11 "cut_by" = true) (k11 : PySem.W.keepIn K (.ref g11) = true)
    {g12 : Addr} {oc12 kV12 dc12 pm12 cd12 ct12 : Value} {od12 an12 : Option Addr} {sl12 : Array (Option Value)}
    (a12 : PySem.W.nsIn K mainGlobals "middle_of" = some (some (.ref g12))) (l12 : K.lookup g12 = some ⟨oc12, od12, .func (PySem.W.fnOf "middle_of" "middle_of" (defArgs (topS 19)) (defBody (topS 19)) (defScope (topS 19)) .none kV12 dc12 pm12 an12 cd12 ct12), sl12⟩)
    (q12 : PySem.W.codeIn K cd12 "middle_of" = true) (k12 : PySem.W.keepIn K (.ref g12) = true)
    {g13 : Addr} {oc13 kV13 dc13 pm13 cd13 ct13 : Value} {od13 an13 : Option Addr} {sl13 : Array (Option Value)}
    (a13 : PySem.W.nsIn K mainGlobals "inner_point" = some (some (.ref g13))) (l13 : K.lookup g13 = some ⟨oc13, od13, .func (PySem.W.fnOf "inner_point" "inner_point" (defArgs (topS 20)) (defBody (topS 20)) (defScope (topS 20)) .none kV13 dc13 pm13 an13 cd13 ct13), sl13⟩)
    (q13 : PySem.W.codeIn K cd13 "inner_point" = true) (k13 : PySem.W.keepIn K (.ref g13) = true)
    {g14 : Addr} {oc14 kV14 dc14 pm14 cd14 ct14 : Value} {od14 an14 : Option Addr} {sl14 : Array (Option Value)}
    (a14 : PySem.W.nsIn K mainGlobals "square_of" = some (some (.ref g14))) (l14 : K.lookup g14 = some ⟨oc14, od14, .func (PySem.W.fnOf "square_of" "square_of" (defArgs (topS 21)) (defBody (topS 21)) (defScope (topS 21)) .none kV14 dc14 pm14 an14 cd14 ct14), sl14⟩)
    (q14 : PySem.W.codeIn K cd14 "square_of" = true) (k14 : PySem.W.keepIn K (.ref g14) = true)
    {g15 : Addr} {oc15 kV15 dc15 pm15 cd15 ct15 : Value} {od15 an15 : Option Addr} {sl15 : Array (Option Value)}
    (a15 : PySem.W.nsIn K mainGlobals "piece_line" = some (some (.ref g15))) (l15 : K.lookup g15 = some ⟨oc15, od15, .func (PySem.W.fnOf "piece_line" "piece_line" (defArgs (topS 22)) (defBody (topS 22)) (defScope (topS 22)) .none kV15 dc15 pm15 an15 cd15 ct15), sl15⟩)
    (q15 : PySem.W.codeIn K cd15 "piece_line" = true) (k15 : PySem.W.keepIn K (.ref g15) = true)
    {g16 : Addr} {oc16 kV16 dc16 pm16 cd16 ct16 : Value} {od16 an16 : Option Addr} {sl16 : Array (Option Value)}
    (a16 : PySem.W.nsIn K mainGlobals "span_lines" = some (some (.ref g16))) (l16 : K.lookup g16 = some ⟨oc16, od16, .func (PySem.W.fnOf "span_lines" "span_lines" (defArgs (topS 23)) (defBody (topS 23)) (defScope (topS 23)) .none kV16 dc16 pm16 an16 cd16 ct16), sl16⟩)
    (q16 : PySem.W.codeIn K cd16 "span_lines" = true) (k16 : PySem.W.keepIn K (.ref g16) = true)
    {g17 : Addr} {oc17 kV17 dc17 pm17 cd17 ct17 : Value} {od17 an17 : Option Addr} {sl17 : Array (Option Value)}
    (a17 : PySem.W.nsIn K mainGlobals "window_lines" = some (some (.ref g17))) (l17 : K.lookup g17 = some ⟨oc17, od17, .func (PySem.W.fnOf "window_lines" "window_lines" (defArgs (topS 24)) (defBody (topS 24)) (defScope (topS 24)) .none kV17 dc17 pm17 an17 cd17 ct17), sl17⟩)
    (q17 : PySem.W.codeIn K cd17 "window_lines" = true) (k17 : PySem.W.keepIn K (.ref g17) = true)
    {g18 : Addr} {oc18 kV18 dc18 pm18 cd18 ct18 : Value} {od18 an18 : Option Addr} {sl18 : Array (Option Value)}
    (a18 : PySem.W.nsIn K mainGlobals "reach_of" = some (some (.ref g18))) (l18 : K.lookup g18 = some ⟨oc18, od18, .func (PySem.W.fnOf "reach_of" "reach_of" (defArgs (topS 25)) (defBody (topS 25)) (defScope (topS 25)) .none kV18 dc18 pm18 an18 cd18 ct18), sl18⟩)
    (q18 : PySem.W.codeIn K cd18 "reach_of" = true) (k18 : PySem.W.keepIn K (.ref g18) = true)
    {g19 : Addr} {oc19 kV19 dc19 pm19 cd19 ct19 : Value} {od19 an19 : Option Addr} {sl19 : Array (Option Value)}
    (a19 : PySem.W.nsIn K mainGlobals "side_lines" = some (some (.ref g19))) (l19 : K.lookup g19 = some ⟨oc19, od19, .func (PySem.W.fnOf "side_lines" "side_lines" (defArgs (topS 26)) (defBody (topS 26)) (defScope (topS 26)) .none kV19 dc19 pm19 an19 cd19 ct19), sl19⟩)
    (q19 : PySem.W.codeIn K cd19 "side_lines" = true) (k19 : PySem.W.keepIn K (.ref g19) = true)
    {g20 : Addr} {oc20 kV20 dc20 pm20 cd20 ct20 : Value} {od20 an20 : Option Addr} {sl20 : Array (Option Value)}
    (a20 : PySem.W.nsIn K mainGlobals "twelve_lines" = some (some (.ref g20))) (l20 : K.lookup g20 = some ⟨oc20, od20, .func (PySem.W.fnOf "twelve_lines" "twelve_lines" (defArgs (topS 27)) (defBody (topS 27)) (defScope (topS 27)) .none kV20 dc20 pm20 an20 cd20 ct20), sl20⟩)
    (q20 : PySem.W.codeIn K cd20 "twelve_lines" = true) (k20 : PySem.W.keepIn K (.ref g20) = true)
    {g21 : Addr} {oc21 kV21 dc21 pm21 cd21 ct21 : Value} {od21 an21 : Option Addr} {sl21 : Array (Option Value)}
    (a21 : PySem.W.nsIn K mainGlobals "piece_square" = some (some (.ref g21))) (l21 : K.lookup g21 = some ⟨oc21, od21, .func (PySem.W.fnOf "piece_square" "piece_square" (defArgs (topS 28)) (defBody (topS 28)) (defScope (topS 28)) .none kV21 dc21 pm21 an21 cd21 ct21), sl21⟩)
    (q21 : PySem.W.codeIn K cd21 "piece_square" = true) (k21 : PySem.W.keepIn K (.ref g21) = true)
    {g22 : Addr} {oc22 kV22 dc22 pm22 cd22 ct22 : Value} {od22 an22 : Option Addr} {sl22 : Array (Option Value)}
    (a22 : PySem.W.nsIn K mainGlobals "far_numbers" = some (some (.ref g22))) (l22 : K.lookup g22 = some ⟨oc22, od22, .func (PySem.W.fnOf "far_numbers" "far_numbers" (defArgs (topS 29)) (defBody (topS 29)) (defScope (topS 29)) .none kV22 dc22 pm22 an22 cd22 ct22), sl22⟩)
    (q22 : PySem.W.codeIn K cd22 "far_numbers" = true) (k22 : PySem.W.keepIn K (.ref g22) = true)
    {g23 : Addr} {oc23 kV23 dc23 pm23 cd23 ct23 : Value} {od23 an23 : Option Addr} {sl23 : Array (Option Value)}
    (a23 : PySem.W.nsIn K mainGlobals "meet_within" = some (some (.ref g23))) (l23 : K.lookup g23 = some ⟨oc23, od23, .func (PySem.W.fnOf "meet_within" "meet_within" (defArgs (topS 30)) (defBody (topS 30)) (defScope (topS 30)) .none kV23 dc23 pm23 an23 cd23 ct23), sl23⟩)
    (q23 : PySem.W.codeIn K cd23 "meet_within" = true) (k23 : PySem.W.keepIn K (.ref g23) = true)
    {g24 : Addr} {oc24 kV24 dc24 pm24 cd24 ct24 : Value} {od24 an24 : Option Addr} {sl24 : Array (Option Value)}
    (a24 : PySem.W.nsIn K mainGlobals "turn_of" = some (some (.ref g24))) (l24 : K.lookup g24 = some ⟨oc24, od24, .func (PySem.W.fnOf "turn_of" "turn_of" (defArgs (topS 32)) (defBody (topS 32)) (defScope (topS 32)) .none kV24 dc24 pm24 an24 cd24 ct24), sl24⟩)
    (q24 : PySem.W.codeIn K cd24 "turn_of" = true) (k24 : PySem.W.keepIn K (.ref g24) = true)
    {g25 : Addr} {oc25 kV25 dc25 pm25 cd25 ct25 : Value} {od25 an25 : Option Addr} {sl25 : Array (Option Value)}
    (a25 : PySem.W.nsIn K mainGlobals "sum_of" = some (some (.ref g25))) (l25 : K.lookup g25 = some ⟨oc25, od25, .func (PySem.W.fnOf "sum_of" "sum_of" (defArgs (topS 33)) (defBody (topS 33)) (defScope (topS 33)) .none kV25 dc25 pm25 an25 cd25 ct25), sl25⟩)
    (q25 : PySem.W.codeIn K cd25 "sum_of" = true) (k25 : PySem.W.keepIn K (.ref g25) = true)
    {g26 : Addr} {oc26 kV26 dc26 pm26 cd26 ct26 : Value} {od26 an26 : Option Addr} {sl26 : Array (Option Value)}
    (a26 : PySem.W.nsIn K mainGlobals "can_not_be" = some (some (.ref g26))) (l26 : K.lookup g26 = some ⟨oc26, od26, .func (PySem.W.fnOf "can_not_be" "can_not_be" (defArgs (topS 34)) (defBody (topS 34)) (defScope (topS 34)) .none kV26 dc26 pm26 an26 cd26 ct26), sl26⟩)
    (q26 : PySem.W.codeIn K cd26 "can_not_be" = true) (k26 : PySem.W.keepIn K (.ref g26) = true)
    {g27 : Addr} {oc27 kV27 dc27 pm27 cd27 ct27 : Value} {od27 an27 : Option Addr} {sl27 : Array (Option Value)}
    (a27 : PySem.W.nsIn K mainGlobals "is_flat" = some (some (.ref g27))) (l27 : K.lookup g27 = some ⟨oc27, od27, .func (PySem.W.fnOf "is_flat" "is_flat" (defArgs (topS 35)) (defBody (topS 35)) (defScope (topS 35)) .none kV27 dc27 pm27 an27 cd27 ct27), sl27⟩)
    (q27 : PySem.W.codeIn K cd27 "is_flat" = true) (k27 : PySem.W.keepIn K (.ref g27) = true)
    {g28 : Addr} {oc28 kV28 dc28 pm28 cd28 ct28 : Value} {od28 an28 : Option Addr} {sl28 : Array (Option Value)}
    (a28 : PySem.W.nsIn K mainGlobals "single_weights" = some (some (.ref g28))) (l28 : K.lookup g28 = some ⟨oc28, od28, .func (PySem.W.fnOf "single_weights" "single_weights" (defArgs (topS 36)) (defBody (topS 36)) (defScope (topS 36)) .none kV28 dc28 pm28 an28 cd28 ct28), sl28⟩)
    (q28 : PySem.W.codeIn K cd28 "single_weights" = true) (k28 : PySem.W.keepIn K (.ref g28) = true)
    {g29 : Addr} {oc29 kV29 dc29 pm29 cd29 ct29 : Value} {od29 an29 : Option Addr} {sl29 : Array (Option Value)}
    (a29 : PySem.W.nsIn K mainGlobals "size_of" = some (some (.ref g29))) (l29 : K.lookup g29 = some ⟨oc29, od29, .func (PySem.W.fnOf "size_of" "size_of" (defArgs (topS 37)) (defBody (topS 37)) (defScope (topS 37)) .none kV29 dc29 pm29 an29 cd29 ct29), sl29⟩)
    (q29 : PySem.W.codeIn K cd29 "size_of" = true) (k29 : PySem.W.keepIn K (.ref g29) = true)
    {g30 : Addr} {oc30 kV30 dc30 pm30 cd30 ct30 : Value} {od30 an30 : Option Addr} {sl30 : Array (Option Value)}
    (a30 : PySem.W.nsIn K mainGlobals "are_against" = some (some (.ref g30))) (l30 : K.lookup g30 = some ⟨oc30, od30, .func (PySem.W.fnOf "are_against" "are_against" (defArgs (topS 38)) (defBody (topS 38)) (defScope (topS 38)) .none kV30 dc30 pm30 an30 cd30 ct30), sl30⟩)
    (q30 : PySem.W.codeIn K cd30 "are_against" = true) (k30 : PySem.W.keepIn K (.ref g30) = true)
    {g31 : Addr} {oc31 kV31 dc31 pm31 cd31 ct31 : Value} {od31 an31 : Option Addr} {sl31 : Array (Option Value)}
    (a31 : PySem.W.nsIn K mainGlobals "pair_weights" = some (some (.ref g31))) (l31 : K.lookup g31 = some ⟨oc31, od31, .func (PySem.W.fnOf "pair_weights" "pair_weights" (defArgs (topS 39)) (defBody (topS 39)) (defScope (topS 39)) .none kV31 dc31 pm31 an31 cd31 ct31), sl31⟩)
    (q31 : PySem.W.codeIn K cd31 "pair_weights" = true) (k31 : PySem.W.keepIn K (.ref g31) = true)
    {g32 : Addr} {oc32 kV32 dc32 pm32 cd32 ct32 : Value} {od32 an32 : Option Addr} {sl32 : Array (Option Value)}
    (a32 : PySem.W.nsIn K mainGlobals "third_weights" = some (some (.ref g32))) (l32 : K.lookup g32 = some ⟨oc32, od32, .func (PySem.W.fnOf "third_weights" "third_weights" (defArgs (topS 40)) (defBody (topS 40)) (defScope (topS 40)) .none kV32 dc32 pm32 an32 cd32 ct32), sl32⟩)
    (q32 : PySem.W.codeIn K cd32 "third_weights" = true) (k32 : PySem.W.keepIn K (.ref g32) = true)
    {g33 : Addr} {oc33 kV33 dc33 pm33 cd33 ct33 : Value} {od33 an33 : Option Addr} {sl33 : Array (Option Value)}
    (a33 : PySem.W.nsIn K mainGlobals "triple_weights" = some (some (.ref g33))) (l33 : K.lookup g33 = some ⟨oc33, od33, .func (PySem.W.fnOf "triple_weights" "triple_weights" (defArgs (topS 41)) (defBody (topS 41)) (defScope (topS 41)) .none kV33 dc33 pm33 an33 cd33 ct33), sl33⟩)
    (q33 : PySem.W.codeIn K cd33 "triple_weights" = true) (k33 : PySem.W.keepIn K (.ref g33) = true)
    {g34 : Addr} {oc34 kV34 dc34 pm34 cd34 ct34 : Value} {od34 an34 : Option Addr} {sl34 : Array (Option Value)}
    (a34 : PySem.W.nsIn K mainGlobals "weights_of" = some (some (.ref g34))) (l34 : K.lookup g34 = some ⟨oc34, od34, .func (PySem.W.fnOf "weights_of" "weights_of" (defArgs (topS 42)) (defBody (topS 42)) (defScope (topS 42)) .none kV34 dc34 pm34 an34 cd34 ct34), sl34⟩)
    (q34 : PySem.W.codeIn K cd34 "weights_of" = true) (k34 : PySem.W.keepIn K (.ref g34) = true)
    {g35 : Addr} {oc35 kV35 dc35 pm35 cd35 ct35 : Value} {od35 an35 : Option Addr} {sl35 : Array (Option Value)}
    (a35 : PySem.W.nsIn K mainGlobals "pieces_of" = some (some (.ref g35))) (l35 : K.lookup g35 = some ⟨oc35, od35, .func (PySem.W.fnOf "pieces_of" "pieces_of" (defArgs (topS 44)) (defBody (topS 44)) (defScope (topS 44)) .none kV35 dc35 pm35 an35 cd35 ct35), sl35⟩)
    (q35 : PySem.W.codeIn K cd35 "pieces_of" = true) (k35 : PySem.W.keepIn K (.ref g35) = true)
    {g36 : Addr} {oc36 kV36 dc36 pm36 cd36 ct36 : Value} {od36 an36 : Option Addr} {sl36 : Array (Option Value)}
    (a36 : PySem.W.nsIn K mainGlobals "met_at" = some (some (.ref g36))) (l36 : K.lookup g36 = some ⟨oc36, od36, .func (PySem.W.fnOf "met_at" "met_at" (defArgs (topS 45)) (defBody (topS 45)) (defScope (topS 45)) .none kV36 dc36 pm36 an36 cd36 ct36), sl36⟩)
    (q36 : PySem.W.codeIn K cd36 "met_at" = true) (k36 : PySem.W.keepIn K (.ref g36) = true)
    {g37 : Addr} {oc37 kV37 dc37 pm37 cd37 ct37 : Value} {od37 an37 : Option Addr} {sl37 : Array (Option Value)}
    (a37 : PySem.W.nsIn K mainGlobals "meet_of" = some (some (.ref g37))) (l37 : K.lookup g37 = some ⟨oc37, od37, .func (PySem.W.fnOf "meet_of" "meet_of" (defArgs (topS 46)) (defBody (topS 46)) (defScope (topS 46)) .none kV37 dc37 pm37 an37 cd37 ct37), sl37⟩)
    (q37 : PySem.W.codeIn K cd37 "meet_of" = true) (k37 : PySem.W.keepIn K (.ref g37) = true)
    {g38 : Addr} {oc38 kV38 dc38 pm38 cd38 ct38 : Value} {od38 an38 : Option Addr} {sl38 : Array (Option Value)}
    (a38 : PySem.W.nsIn K mainGlobals "_law_tape" = some (some (.ref g38))) (l38 : K.lookup g38 = some ⟨oc38, od38, .func (PySem.W.fnOf "_law_tape" "_law_tape" (defArgs (topS 48)) (defBody (topS 48)) (defScope (topS 48)) .none kV38 dc38 pm38 an38 cd38 ct38), sl38⟩)
    (q38 : PySem.W.codeIn K cd38 "_law_tape" = true) (k38 : PySem.W.keepIn K (.ref g38) = true)
    {g39 : Addr} {oc39 kV39 dc39 pm39 cd39 ct39 : Value} {od39 an39 : Option Addr} {sl39 : Array (Option Value)}
    (a39 : PySem.W.nsIn K mainGlobals "_law_draw" = some (some (.ref g39))) (l39 : K.lookup g39 = some ⟨oc39, od39, .func (PySem.W.fnOf "_law_draw" "_law_draw" (defArgs (topS 49)) (defBody (topS 49)) (defScope (topS 49)) .none kV39 dc39 pm39 an39 cd39 ct39), sl39⟩)
    (q39 : PySem.W.codeIn K cd39 "_law_draw" = true) (k39 : PySem.W.keepIn K (.ref g39) = true)
    {g40 : Addr} {oc40 kV40 dc40 pm40 cd40 ct40 : Value} {od40 an40 : Option Addr} {sl40 : Array (Option Value)}
    (a40 : PySem.W.nsIn K mainGlobals "_law_part" = some (some (.ref g40))) (l40 : K.lookup g40 = some ⟨oc40, od40, .func (PySem.W.fnOf "_law_part" "_law_part" (defArgs (topS 50)) (defBody (topS 50)) (defScope (topS 50)) .none kV40 dc40 pm40 an40 cd40 ct40), sl40⟩)
    (q40 : PySem.W.codeIn K cd40 "_law_part" = true) (k40 : PySem.W.keepIn K (.ref g40) = true)
    {g41 : Addr} {oc41 kV41 dc41 pm41 cd41 ct41 : Value} {od41 an41 : Option Addr} {sl41 : Array (Option Value)}
    (a41 : PySem.W.nsIn K mainGlobals "_law_sum" = some (some (.ref g41))) (l41 : K.lookup g41 = some ⟨oc41, od41, .func (PySem.W.fnOf "_law_sum" "_law_sum" (defArgs (topS 52)) (defBody (topS 52)) (defScope (topS 52)) .none kV41 dc41 pm41 an41 cd41 ct41), sl41⟩)
    (q41 : PySem.W.codeIn K cd41 "_law_sum" = true) (k41 : PySem.W.keepIn K (.ref g41) = true)
    {g42 : Addr} {oc42 kV42 dc42 pm42 cd42 ct42 : Value} {od42 an42 : Option Addr} {sl42 : Array (Option Value)}
    (a42 : PySem.W.nsIn K mainGlobals "_law_product" = some (some (.ref g42))) (l42 : K.lookup g42 = some ⟨oc42, od42, .func (PySem.W.fnOf "_law_product" "_law_product" (defArgs (topS 54)) (defBody (topS 54)) (defScope (topS 54)) .none kV42 dc42 pm42 an42 cd42 ct42), sl42⟩)
    (q42 : PySem.W.codeIn K cd42 "_law_product" = true) (k42 : PySem.W.keepIn K (.ref g42) = true)
    {g43 : Addr} {oc43 kV43 dc43 pm43 cd43 ct43 : Value} {od43 an43 : Option Addr} {sl43 : Array (Option Value)}
    (a43 : PySem.W.nsIn K mainGlobals "_law_place" = some (some (.ref g43))) (l43 : K.lookup g43 = some ⟨oc43, od43, .func (PySem.W.fnOf "_law_place" "_law_place" (defArgs (topS 56)) (defBody (topS 56)) (defScope (topS 56)) .none kV43 dc43 pm43 an43 cd43 ct43), sl43⟩)
    (q43 : PySem.W.codeIn K cd43 "_law_place" = true) (k43 : PySem.W.keepIn K (.ref g43) = true)
    {g44 : Addr} {oc44 kV44 dc44 pm44 cd44 ct44 : Value} {od44 an44 : Option Addr} {sl44 : Array (Option Value)}
    (a44 : PySem.W.nsIn K mainGlobals "_law_span" = some (some (.ref g44))) (l44 : K.lookup g44 = some ⟨oc44, od44, .func (PySem.W.fnOf "_law_span" "_law_span" (defArgs (topS 57)) (defBody (topS 57)) (defScope (topS 57)) .none kV44 dc44 pm44 an44 cd44 ct44), sl44⟩)
    (q44 : PySem.W.codeIn K cd44 "_law_span" = true) (k44 : PySem.W.keepIn K (.ref g44) = true)
    {g45 : Addr} {oc45 kV45 dc45 pm45 cd45 ct45 : Value} {od45 an45 : Option Addr} {sl45 : Array (Option Value)}
    (a45 : PySem.W.nsIn K mainGlobals "_law_bounds" = some (some (.ref g45))) (l45 : K.lookup g45 = some ⟨oc45, od45, .func (PySem.W.fnOf "_law_bounds" "_law_bounds" (defArgs (topS 59)) (defBody (topS 59)) (defScope (topS 59)) .none kV45 dc45 pm45 an45 cd45 ct45), sl45⟩)
    (q45 : PySem.W.codeIn K cd45 "_law_bounds" = true) (k45 : PySem.W.keepIn K (.ref g45) = true)
    {g46 : Addr} {oc46 kV46 dc46 pm46 cd46 ct46 : Value} {od46 an46 : Option Addr} {sl46 : Array (Option Value)}
    (a46 : PySem.W.nsIn K mainGlobals "_law_apart" = some (some (.ref g46))) (l46 : K.lookup g46 = some ⟨oc46, od46, .func (PySem.W.fnOf "_law_apart" "_law_apart" (defArgs (topS 60)) (defBody (topS 60)) (defScope (topS 60)) .none kV46 dc46 pm46 an46 cd46 ct46), sl46⟩)
    (q46 : PySem.W.codeIn K cd46 "_law_apart" = true) (k46 : PySem.W.keepIn K (.ref g46) = true)
    {g47 : Addr} {oc47 kV47 dc47 pm47 cd47 ct47 : Value} {od47 an47 : Option Addr} {sl47 : Array (Option Value)}
    (a47 : PySem.W.nsIn K mainGlobals "_law_staying" = some (some (.ref g47))) (l47 : K.lookup g47 = some ⟨oc47, od47, .func (PySem.W.fnOf "_law_staying" "_law_staying" (defArgs (topS 61)) (defBody (topS 61)) (defScope (topS 61)) .none kV47 dc47 pm47 an47 cd47 ct47), sl47⟩)
    (q47 : PySem.W.codeIn K cd47 "_law_staying" = true) (k47 : PySem.W.keepIn K (.ref g47) = true)
    {g48 : Addr} {oc48 kV48 dc48 pm48 cd48 ct48 : Value} {od48 an48 : Option Addr} {sl48 : Array (Option Value)}
    (a48 : PySem.W.nsIn K mainGlobals "law" = some (some (.ref g48))) (l48 : K.lookup g48 = some ⟨oc48, od48, .func (PySem.W.fnOf "law" "law" (defArgs (topS 62)) (defBody (topS 62)) (defScope (topS 62)) .none kV48 dc48 pm48 an48 cd48 ct48), sl48⟩)
    (q48 : PySem.W.codeIn K cd48 "law" = true) (k48 : PySem.W.keepIn K (.ref g48) = true)
    (z0 : PySem.W.nsIn K mainGlobals "abs" = some none)
    (z1 : PySem.W.nsIn K mainGlobals "all" = some none)
    (z2 : PySem.W.nsIn K mainGlobals "any" = some none)
    (z3 : PySem.W.nsIn K mainGlobals "enumerate" = some none)
    (z4 : PySem.W.nsIn K mainGlobals "int" = some none)
    (z5 : PySem.W.nsIn K mainGlobals "len" = some none)
    (z6 : PySem.W.nsIn K mainGlobals "min" = some none)
    (z7 : PySem.W.nsIn K mainGlobals "range" = some none)
    (z8 : PySem.W.nsIn K mainGlobals "tuple" = some none)
    (z9 : PySem.W.nsIn K mainGlobals "zip" = some none)
    {gc0 : Addr} {oc0_ : Option Addr} {nc0 : Nat} {sc0 : Array (Option Value)} {t0_0 : Tok} {t0_1 : Tok}
    (ac0 : PySem.W.nsIn K mainGlobals "NONE" = some (some (.ref gc0)))
    (lc0 : K.lookup gc0 = some ⟨.type "tuple", oc0_, .seq #[(.int 0 t0_0), (.int 1 t0_1)] nc0, sc0⟩)
    {gc1 : Addr} {oc1_ : Option Addr} {nc1 : Nat} {sc1 : Array (Option Value)} {t1_0 : Tok} {t1_1 : Tok}
    (ac1 : PySem.W.nsIn K mainGlobals "ONE" = some (some (.ref gc1)))
    (lc1 : K.lookup gc1 = some ⟨.type "tuple", oc1_, .seq #[(.int 1 t1_0), (.int 1 t1_1)] nc1, sc1⟩)
    {gc2 : Addr} {oc2_ : Option Addr} {nc2 : Nat} {sc2 : Array (Option Value)} {t2_0 : Tok} {t2_1 : Tok}
    (ac2 : PySem.W.nsIn K mainGlobals "LESS" = some (some (.ref gc2)))
    (lc2 : K.lookup gc2 = some ⟨.type "tuple", oc2_, .seq #[(.int (-1) t2_0), (.int 1 t2_1)] nc2, sc2⟩)
    {gc3 : Addr} {oc3_ : Option Addr} {nc3 : Nat} {sc3 : Array (Option Value)} {t3_0 : Tok} {t3_1 : Tok} {t3_2 : Tok} {t3_3 : Tok}
    (ac3 : PySem.W.nsIn K mainGlobals "CLOSED" = some (some (.ref gc3)))
    (lc3 : K.lookup gc3 = some ⟨.type "tuple", oc3_, .seq #[(.int 0 t3_0), (.int 2 t3_1), (.int 4 t3_2), (.int 5 t3_3)] nc3, sc3⟩)
    {tk4 : Tok} (ac4 : PySem.W.nsIn K mainGlobals "TWELVE" = some (some (.int 12 tk4))) : Top pm K mg tb ds := by
  refine ⟨by kernel_rfl, codes.get, scopes, ?_, ?_, ?_, ?_⟩
  · refine List.forall_mem_cons.mpr ⟨defAt_mk X G a0 l0 q0 k0 (fun _ _ _ _ _ _ us hl => match us, hl with | [_, _], _ => rfl), ?_⟩
    refine List.forall_mem_cons.mpr ⟨defAt_mk X G a1 l1 q1 k1 (fun _ _ _ _ _ _ us hl => match us, hl with | [_, _], _ => rfl), ?_⟩
    refine List.forall_mem_cons.mpr ⟨defAt_mk X G a2 l2 q2 k2 (fun _ _ _ _ _ _ us hl => match us, hl with | [_, _], _ => rfl), ?_⟩
    refine List.forall_mem_cons.mpr ⟨defAt_mk X G a3 l3 q3 k3 (fun _ _ _ _ _ _ us hl => match us, hl with | [_, _], _ => rfl), ?_⟩
    refine List.forall_mem_cons.mpr ⟨defAt_mk X G a4 l4 q4 k4 (fun _ _ _ _ _ _ us hl => match us, hl with | [_, _], _ => rfl), ?_⟩
    refine List.forall_mem_cons.mpr ⟨defAt_mk X G a5 l5 q5 k5 (fun _ _ _ _ _ _ us hl => match us, hl with | [_, _], _ => rfl), ?_⟩
    refine List.forall_mem_cons.mpr ⟨defAt_mk X G a6 l6 q6 k6 (fun _ _ _ _ _ _ us hl => match us, hl with | [_, _], _ => rfl), ?_⟩
    refine List.forall_mem_cons.mpr ⟨defAt_mk X G a7 l7 q7 k7 (fun _ _ _ _ _ _ us hl => match us, hl with | [_, _], _ => rfl), ?_⟩
    refine List.forall_mem_cons.mpr ⟨defAt_mk X G a8 l8 q8 k8 (fun _ _ _ _ _ _ us hl => match us, hl with | [_], _ => rfl), ?_⟩
    refine List.forall_mem_cons.mpr ⟨defAt_mk X G a9 l9 q9 k9 (fun _ _ _ _ _ _ us hl => match us, hl with | [_, _, _, _], _ => rfl), ?_⟩
    refine List.forall_mem_cons.mpr ⟨defAt_mk X G a10 l10 q10 k10 (fun _ _ _ _ _ _ us hl => match us, hl with | [_, _], _ => rfl), ?_⟩
    refine List.forall_mem_cons.mpr ⟨defAt_mk X G a11 l11 q11 k11 (fun _ _ _ _ _ _ us hl => match us, hl with | [_, _], _ => rfl), ?_⟩
    refine List.forall_mem_cons.mpr ⟨defAt_mk X G a12 l12 q12 k12 (fun _ _ _ _ _ _ us hl => match us, hl with | [_], _ => rfl), ?_⟩
    refine List.forall_mem_cons.mpr ⟨defAt_mk X G a13 l13 q13 k13 (fun _ _ _ _ _ _ us hl => match us, hl with | [_, _], _ => rfl), ?_⟩
    refine List.forall_mem_cons.mpr ⟨defAt_mk X G a14 l14 q14 k14 (fun _ _ _ _ _ _ us hl => match us, hl with | [_, _, _, _], _ => rfl), ?_⟩
    refine List.forall_mem_cons.mpr ⟨defAt_mk X G a15 l15 q15 k15 (fun _ _ _ _ _ _ us hl => match us, hl with | [_, _, _], _ => rfl), ?_⟩
    refine List.forall_mem_cons.mpr ⟨defAt_mk X G a16 l16 q16 k16 (fun _ _ _ _ _ _ us hl => match us, hl with | [_, _, _, _], _ => rfl), ?_⟩
    refine List.forall_mem_cons.mpr ⟨defAt_mk X G a17 l17 q17 k17 (fun _ _ _ _ _ _ us hl => match us, hl with | [_, _], _ => rfl), ?_⟩
    refine List.forall_mem_cons.mpr ⟨defAt_mk X G a18 l18 q18 k18 (fun _ _ _ _ _ _ us hl => match us, hl with | [_, _, _, _], _ => rfl), ?_⟩
    refine List.forall_mem_cons.mpr ⟨defAt_mk X G a19 l19 q19 k19 (fun _ _ _ _ _ _ us hl => match us, hl with | [_, _, _, _, _], _ => rfl), ?_⟩
    refine List.forall_mem_cons.mpr ⟨defAt_mk X G a20 l20 q20 k20 (fun _ _ _ _ _ _ us hl => match us, hl with | [_, _, _, _, _], _ => rfl), ?_⟩
    refine List.forall_mem_cons.mpr ⟨defAt_mk X G a21 l21 q21 k21 (fun _ _ _ _ _ _ us hl => match us, hl with | [_, _, _, _], _ => rfl), ?_⟩
    refine List.forall_mem_cons.mpr ⟨defAt_mk X G a22 l22 q22 k22 (fun _ _ _ _ _ _ us hl => match us, hl with | [_], _ => rfl), ?_⟩
    refine List.forall_mem_cons.mpr ⟨defAt_mk X G a23 l23 q23 k23 (fun _ _ _ _ _ _ us hl => match us, hl with | [_, _, _, _, _], _ => rfl), ?_⟩
    refine List.forall_mem_cons.mpr ⟨defAt_mk X G a24 l24 q24 k24 (fun _ _ _ _ _ _ us hl => match us, hl with | [_, _], _ => rfl), ?_⟩
    refine List.forall_mem_cons.mpr ⟨defAt_mk X G a25 l25 q25 k25 (fun _ _ _ _ _ _ us hl => match us, hl with | [_, _], _ => rfl), ?_⟩
    refine List.forall_mem_cons.mpr ⟨defAt_mk X G a26 l26 q26 k26 (fun _ _ _ _ _ _ us hl => match us, hl with | [_, _], _ => rfl), ?_⟩
    refine List.forall_mem_cons.mpr ⟨defAt_mk X G a27 l27 q27 k27 (fun _ _ _ _ _ _ us hl => match us, hl with | [_], _ => rfl), ?_⟩
    refine List.forall_mem_cons.mpr ⟨defAt_mk X G a28 l28 q28 k28 (fun _ _ _ _ _ _ us hl => match us, hl with | [_], _ => rfl), ?_⟩
    refine List.forall_mem_cons.mpr ⟨defAt_mk X G a29 l29 q29 k29 (fun _ _ _ _ _ _ us hl => match us, hl with | [_], _ => rfl), ?_⟩
    refine List.forall_mem_cons.mpr ⟨defAt_mk X G a30 l30 q30 k30 (fun _ _ _ _ _ _ us hl => match us, hl with | [_, _], _ => rfl), ?_⟩
    refine List.forall_mem_cons.mpr ⟨defAt_mk X G a31 l31 q31 k31 (fun _ _ _ _ _ _ us hl => match us, hl with | [_], _ => rfl), ?_⟩
    refine List.forall_mem_cons.mpr ⟨defAt_mk X G a32 l32 q32 k32 (fun _ _ _ _ _ _ us hl => match us, hl with | [_, _], _ => rfl), ?_⟩
    refine List.forall_mem_cons.mpr ⟨defAt_mk X G a33 l33 q33 k33 (fun _ _ _ _ _ _ us hl => match us, hl with | [_], _ => rfl), ?_⟩
    refine List.forall_mem_cons.mpr ⟨defAt_mk X G a34 l34 q34 k34 (fun _ _ _ _ _ _ us hl => match us, hl with | [_], _ => rfl), ?_⟩
    refine List.forall_mem_cons.mpr ⟨defAt_mk X G a35 l35 q35 k35 (fun _ _ _ _ _ _ us hl => match us, hl with | [_, _], _ => rfl), ?_⟩
    refine List.forall_mem_cons.mpr ⟨defAt_mk X G a36 l36 q36 k36 (fun _ _ _ _ _ _ us hl => match us, hl with | [_, _, _], _ => rfl), ?_⟩
    refine List.forall_mem_cons.mpr ⟨defAt_mk X G a37 l37 q37 k37 (fun _ _ _ _ _ _ us hl => match us, hl with | [_, _, _], _ => rfl), ?_⟩
    refine List.forall_mem_cons.mpr ⟨defAt_mk X G a38 l38 q38 k38 (fun _ _ _ _ _ _ us hl => match us, hl with | [_, _], _ => rfl), ?_⟩
    refine List.forall_mem_cons.mpr ⟨defAt_mk X G a39 l39 q39 k39 (fun _ _ _ _ _ _ us hl => match us, hl with | [_, _], _ => rfl), ?_⟩
    refine List.forall_mem_cons.mpr ⟨defAt_mk X G a40 l40 q40 k40 (fun _ _ _ _ _ _ us hl => match us, hl with | [_, _], _ => rfl), ?_⟩
    refine List.forall_mem_cons.mpr ⟨defAt_mk X G a41 l41 q41 k41 (fun _ _ _ _ _ _ us hl => match us, hl with | [_, _], _ => rfl), ?_⟩
    refine List.forall_mem_cons.mpr ⟨defAt_mk X G a42 l42 q42 k42 (fun _ _ _ _ _ _ us hl => match us, hl with | [_, _], _ => rfl), ?_⟩
    refine List.forall_mem_cons.mpr ⟨defAt_mk X G a43 l43 q43 k43 (fun _ _ _ _ _ _ us hl => match us, hl with | [_], _ => rfl), ?_⟩
    refine List.forall_mem_cons.mpr ⟨defAt_mk X G a44 l44 q44 k44 (fun _ _ _ _ _ _ us hl => match us, hl with | [_], _ => rfl), ?_⟩
    refine List.forall_mem_cons.mpr ⟨defAt_mk X G a45 l45 q45 k45 (fun _ _ _ _ _ _ us hl => match us, hl with | [_], _ => rfl), ?_⟩
    refine List.forall_mem_cons.mpr ⟨defAt_mk X G a46 l46 q46 k46 (fun _ _ _ _ _ _ us hl => match us, hl with | [_], _ => rfl), ?_⟩
    refine List.forall_mem_cons.mpr ⟨defAt_mk X G a47 l47 q47 k47 (fun _ _ _ _ _ _ us hl => match us, hl with | [_, _, _], _ => rfl), ?_⟩
    refine List.forall_mem_cons.mpr ⟨defAt_mk X G a48 l48 q48 k48 (fun _ _ _ _ _ _ us hl => match us, hl with | [_], _ => rfl), ?_⟩
    exact fun _ h => (by cases h)
  · exact con_cons (con_ref X G ac0 (rep_tup (xs := [.int 0, .int 1]) lc0 (show 2 ≤ sizeLine by decide) (show 2 ≤ sizeLine by decide) (.cons ⟨_, rfl⟩ (.cons ⟨_, rfl⟩ .nil)) (fun _ _ => (.cons (.int _) (.cons (.int _) .nil))))) (con_cons (con_ref X G ac1 (rep_tup (xs := [.int 1, .int 1]) lc1 (show 2 ≤ sizeLine by decide) (show 2 ≤ sizeLine by decide) (.cons ⟨_, rfl⟩ (.cons ⟨_, rfl⟩ .nil)) (fun _ _ => (.cons (.int _) (.cons (.int _) .nil))))) (con_cons (con_ref X G ac2 (rep_tup (xs := [.int (-1), .int 1]) lc2 (show 2 ≤ sizeLine by decide) (show 2 ≤ sizeLine by decide) (.cons ⟨_, rfl⟩ (.cons ⟨_, rfl⟩ .nil)) (fun _ _ => (.cons (.int _) (.cons (.int _) .nil))))) (con_cons (con_ref X G ac3 (rep_tup (xs := [.int 0, .int 2, .int 4, .int 5]) lc3 (show 4 ≤ sizeLine by decide) (show 4 ≤ sizeLine by decide) (.cons ⟨_, rfl⟩ (.cons ⟨_, rfl⟩ (.cons ⟨_, rfl⟩ (.cons ⟨_, rfl⟩ .nil)))) (fun _ _ => (.cons (.int _) (.cons (.int _) (.cons (.int _) (.cons (.int _) .nil))))))) (con_cons (con_int X G ac4) (con_nil)))))
  · refine List.forall_mem_cons.mpr ⟨PySem.W.mg_none_of X G z0, ?_⟩
    refine List.forall_mem_cons.mpr ⟨PySem.W.mg_none_of X G z1, ?_⟩
    refine List.forall_mem_cons.mpr ⟨PySem.W.mg_none_of X G z2, ?_⟩
    refine List.forall_mem_cons.mpr ⟨PySem.W.mg_none_of X G z3, ?_⟩
    refine List.forall_mem_cons.mpr ⟨PySem.W.mg_none_of X G z4, ?_⟩
    refine List.forall_mem_cons.mpr ⟨PySem.W.mg_none_of X G z5, ?_⟩
    refine List.forall_mem_cons.mpr ⟨PySem.W.mg_none_of X G z6, ?_⟩
    refine List.forall_mem_cons.mpr ⟨PySem.W.mg_none_of X G z7, ?_⟩
    refine List.forall_mem_cons.mpr ⟨PySem.W.mg_none_of X G z8, ?_⟩
    refine List.forall_mem_cons.mpr ⟨PySem.W.mg_none_of X G z9, ?_⟩
    exact fun _ h => (by cases h)
  · exact dic_nil

open PySem PySem.Spec PyProof.Rows L2 Sk
local macro_rules | `(tactic| left) => `(tactic| first
  | (apply wc_eqF; (focus right); (focus right); (focus first | decide | omega); (focus first | decide | omega))
  | (apply wc_neF; (focus right); (focus right); (focus first | decide | omega); (focus first | decide | omega)))

open PySem PySem.Spec PyProof.Rows L2 Sk
local macro_rules | `(tactic| left) => `(tactic| first
  | refine wss_cons ?_
  | refine wss_nil ?_
  | refine wk_nx ?_
  | refine wk_ret ?_
  | refine wk_brk ?_
  | refine wk_ct ?_
  | refine ws_asg ?_
  | refine ws_new ?_
  | refine ws_asgT ?_
  | refine ws_par ?_
  | refine ws_setI ?_
  | refine ws_aug ?_
  | refine ws_expr ?_
  | refine ws_ite ?_
  | refine ws_ret ?_
  | refine ws_retF ?_
  | refine ws_retN ?_
  | refine ws_brk ?_
  | refine ws_ctn ?_
  | refine ws_pass ?_
  | refine we_var rfl ?_
  | refine we_con ?_
  | refine we_bin ?_
  | refine we_neg ?_
  | refine we_cmp ?_
  | refine we_isN ?_
  | refine we_notN ?_
  | refine we_isC ?_
  | refine we_and ?_
  | refine we_or ?_
  | refine we_not ?_
  | refine we_ife ?_
  | refine we_tup ?_
  | refine we_fr ?_
  | refine we_idx ?_
  | refine we_slc ?_
  | refine we_call ?_
  | refine we_blt ?_
  | refine wes_nil ?_
  | refine wes_cons ?_
  | refine wf_disp ?_
  | refine wf_list ?_
  | refine wcd_nil ?_
  | refine wcd_one ?_
  | refine wl_val ?_
  | refine wz_val ?_
  | refine wzs_nil ?_
  | refine wzs_cons ?_
  | refine wb_add ?_
  | refine wb_sub ?_
  | refine wb_mul (mul_ok60 (by omega) (by omega)) ?_
  | refine wb_mod (by first | decide | assumption | omega) ?_
  | refine wb_div (by first | decide | assumption | omega) (by first | decide | assumption) ?_
  | refine wb_pow (by decide) (by simp only [Int.reduceToNat, Int.reducePow]; rfl) ?_
  | refine wc_lt ?_
  | refine wc_le ?_
  | refine wc_gt ?_
  | refine wc_ge ?_
  | refine wc_eq ?_
  | refine wc_eqS ?_
  | refine wc_eqB ?_
  | refine wc_ne ?_
  | refine wc_neS ?_
  | refine wx_is rfl ?_
  | refine wbl_is rfl ?_
  | refine br_t ?_
  | refine br_f ?_
  | (refine br_dec ?_ ?_ <;> intro hbr <;> try (exfalso; omega))
  | (refine br_ndec ?_ ?_ <;> intro hbr <;> try (exfalso; omega))
  | refine Br_mk ?_ ?_ <;> intro hbr
  | refine wp_is rfl ?_
  | refine wp_is (by assumption) ?_
  | refine Exists.intro _ (Exists.intro _ (Exists.intro _ (Exists.intro _ ⟨rfl, rfl, by assumption, rfl, ?_⟩)))
  | refine Exists.intro _ ⟨rfl, ?_⟩
  | refine Exists.intro _ (Exists.intro _ ⟨rfl, rfl, ?_⟩))

theorem shared_wC {k : Nat} {t b : Int} {st : Mem} {Q : WQ} (hb : 0 < b) (h : Q (.val (.int (Int.gcd t b : Nat))) st) : wC (callN pr (k + 1)) i_shared_factor [.val (.int t.natAbs), .val (.int b)] st Q := by
  refine wc_call P_shared_factor rfl ?_
  refine wss_cons ?_
  refine gcd_whl (t := t) (b := b) (by omega) (by decide) (show 0 < 2 by decide) (show 1 < 2 by decide) rfl (show some (some (W.val (.int b))) = _ by rw [Int.natAbs_of_nonneg (Int.le_of_lt hb)]) fun r' hl ho hg => ?_
  refine wk_nx (wss_cons (ws_ret (we_var hg (wk_ret (wd_same h)))))

theorem part_wC {k n : Nat} {t b : Int} {st : Mem} {Q : WQ} (hb : b ≠ 0) (ht : t.natAbs < 2 ^ n) (hb2 : b.natAbs < 2 ^ n) (hn : n < 9000)
    (h : Q (.val (F ((t : Rat) / (b : Rat)))) st) : wC (callN pr (k + 2)) i_part [.val (.int t), .val (.int b)] st Q := by
  have key : ∀ (t b : Int) (r : Rho), 0 < b → t.natAbs < 2 ^ n → b.natAbs < 2 ^ n → Q (.val (F ((t : Rat) / (b : Rat)))) st → r = [some (.val (.int t)), some (.val (.int b)), none] →
      wSs (callN pr (k + 1)) (match f_part.body with | .cons _ ss => ss | _ => .nil) r st (doneK f_part.live st.length Q) := by
    rintro t b r hb ht hb2 h rfl
    have gp := gcd_pos (a := t) (b := b) (by omega)
    have gl : ((Int.gcd t b : Nat) : Int).natAbs.log2 < 9000 := log2_lt_of (gcd_lt (a := t) (by omega) hb2) hn
    repeat' left
    refine shared_wC hb ?_
    repeat' left
    have e1 := part_num (t := t) (b := b) (by omega)
    have e2 := part_den (t := t) (b := b) (by omega)
    rw [Int.sign_eq_one_of_pos hb, Int.one_mul] at e1 e2
    rw [e1, e2]
    exact wd_same h
  refine wc_call P_part rfl ?_
  refine wss_cons (ws_ite (we_cmp (we_var rfl (we_con (wl_val (wl_val (wc_lt (br_dec (fun hn0 => ?_) (fun hn0 => ?_)))))))))
  · refine wss_cons (ws_par (wes_cons (we_neg (we_var rfl ⟨_, rfl, wes_cons (we_neg (we_var rfl ⟨_, rfl, wes_nil ⟨_, rfl, wk_nx (wss_nil (wk_nx ?_))⟩⟩))⟩))))
    refine key (-t) (-b) _ (by omega) (by omega) (by omega) ?_ rfl
    have : ((-t : Int) : Rat) / ((-b : Int) : Rat) = (t : Rat) / (b : Rat) := by
      rw [← Rat.divInt_eq_div, ← Rat.divInt_eq_div, Rat.divInt_eq_divInt_iff (by omega) (by omega), Int.neg_mul_comm]
    rw [this]
    exact h
  · refine wss_nil (wk_nx ?_)
    exact key t b _ (by omega) ht hb2 h rfl

theorem plus_wC {k m n : Nat} {p q : Rat} {st : Mem} {Q : WQ} (hp : Sz m p) (hq : Sz n q) (hn : m + n + 1 < 9000)
    (h : Q (.val (F (p + q))) st) : wC (callN pr (k + 3)) i_plus [.val (F p), .val (F q)] st Q := by
  refine wc_call P_plus rfl ?_
  repeat' left
  refine wb_mul (log2_sum hp.1 (by rw [den_natAbs]; exact hq.2) (by omega)) ?_
  repeat' left
  refine wb_mul (log2_sum hq.1 (by rw [den_natAbs]; exact hp.2) (by omega)) ?_
  repeat' left
  refine wb_mul (log2_sum (by rw [den_natAbs]; exact hp.2) (by rw [den_natAbs]; exact hq.2) (show m + n < _ by omega)) ?_
  repeat' left
  refine part_wC (n := m + n + 1) (dens_ne p q) (natAbs_add_lt (cross hp hq) (by rw [Nat.add_comm]; exact cross hq hp)) (lt_pow_succ (crossD hp hq)) hn ?_
  repeat' left
  rw [rat_add]
  exact wd_same h
theorem plus_wF {k m n : Nat} {p q : Rat} {x y : PyData} {st : Mem} {Q : WQ} (hx : Fr m x p) (hy : Fr n y q) (hn : m + n + 1 < 9000)
    (h : Q (.val (F (p + q))) st) : wC (callN pr (k + 3)) i_plus [.val x, .val y] st Q := by
  rw [hx.e, hy.e]; exact plus_wC hx.s hy.s hn h

theorem minus_wC {k m n : Nat} {p q : Rat} {st : Mem} {Q : WQ} (hp : Sz m p) (hq : Sz n q) (hn : m + n + 1 < 9000)
    (h : Q (.val (F (p - q))) st) : wC (callN pr (k + 3)) i_minus [.val (F p), .val (F q)] st Q := by
  refine wc_call P_minus rfl ?_
  repeat' left
  refine wb_mul (log2_sum hp.1 (by rw [den_natAbs]; exact hq.2) (by omega)) ?_
  repeat' left
  refine wb_mul (log2_sum hq.1 (by rw [den_natAbs]; exact hp.2) (by omega)) ?_
  repeat' left
  refine wb_mul (log2_sum (by rw [den_natAbs]; exact hp.2) (by rw [den_natAbs]; exact hq.2) (show m + n < _ by omega)) ?_
  repeat' left
  refine part_wC (n := m + n + 1) (dens_ne p q) (natAbs_sub_lt (cross hp hq) (by rw [Nat.add_comm]; exact cross hq hp)) (lt_pow_succ (crossD hp hq)) hn ?_
  repeat' left
  rw [rat_sub]
  exact wd_same h
theorem minus_wF {k m n : Nat} {p q : Rat} {x y : PyData} {st : Mem} {Q : WQ} (hx : Fr m x p) (hy : Fr n y q) (hn : m + n + 1 < 9000)
    (h : Q (.val (F (p - q))) st) : wC (callN pr (k + 3)) i_minus [.val x, .val y] st Q := by
  rw [hx.e, hy.e]; exact minus_wC hx.s hy.s hn h

theorem times_wC {k m n : Nat} {p q : Rat} {st : Mem} {Q : WQ} (hp : Sz m p) (hq : Sz n q) (hn : m + n + 1 < 9000)
    (h : Q (.val (F (p * q))) st) : wC (callN pr (k + 3)) i_times [.val (F p), .val (F q)] st Q := by
  refine wc_call P_times rfl ?_
  repeat' left
  refine wb_mul (log2_sum hp.1 hq.1 (by omega)) ?_
  repeat' left
  refine wb_mul (log2_sum (by rw [den_natAbs]; exact hp.2) (by rw [den_natAbs]; exact hq.2) (show m + n < _ by omega)) ?_
  repeat' left
  refine part_wC (n := m + n) (dens_ne p q) (natAbs_mul_lt hp.1 hq.1) (crossD hp hq) (by omega) ?_
  repeat' left
  rw [rat_mul]
  exact wd_same h
theorem times_wF {k m n : Nat} {p q : Rat} {x y : PyData} {st : Mem} {Q : WQ} (hx : Fr m x p) (hy : Fr n y q) (hn : m + n + 1 < 9000)
    (h : Q (.val (F (p * q))) st) : wC (callN pr (k + 3)) i_times [.val x, .val y] st Q := by
  rw [hx.e, hy.e]; exact times_wC hx.s hy.s hn h

theorem over_wC {k m n : Nat} {p q : Rat} {st : Mem} {Q : WQ} (hp : Sz m p) (hq : Sz n q) (h0 : q ≠ 0) (hn : m + n < 9000)
    (h : Q (.val (F (p / q))) st) : wC (callN pr (k + 3)) i_over [.val (F p), .val (F q)] st Q := by
  refine wc_call P_over rfl ?_
  repeat' left
  refine wb_mul (log2_sum hp.1 (by rw [den_natAbs]; exact hq.2) (by omega)) ?_
  repeat' left
  refine wb_mul (log2_sum (by rw [den_natAbs]; exact hp.2) hq.1 (by omega)) ?_
  repeat' left
  refine part_wC (n := m + n) (Int.mul_ne_zero (den_ne p) (num_ne h0)) (cross hp hq) (natAbs_mul_lt (by rw [den_natAbs]; exact hp.2) hq.1) (by omega) ?_
  repeat' left
  rw [rat_over p q h0]
  exact wd_same h
theorem over_wF {k m n : Nat} {p q : Rat} {x y : PyData} {st : Mem} {Q : WQ} (hx : Fr m x p) (hy : Fr n y q) (h0 : q ≠ 0) (hn : m + n < 9000)
    (h : Q (.val (F (p / q))) st) : wC (callN pr (k + 3)) i_over [.val x, .val y] st Q := by
  rw [hx.e, hy.e]; exact over_wC hx.s hy.s h0 hn h

theorem before_wC {k m n : Nat} {p q : Rat} {st : Mem} {Q : WQ} (hp : Sz m p) (hq : Sz n q) (hn : m + n < 100000000) (h : Q (.val (.bool (decide (p < q)))) st) : wC (callN pr (k + 1)) i_before [.val (F p), .val (F q)] st Q := by
  refine wc_call P_before rfl ?_
  repeat' left
  refine wb_mul (log2_sum hp.1 (by rw [den_natAbs]; exact hq.2) hn) ?_
  repeat' left
  refine wb_mul (log2_sum hq.1 (by rw [den_natAbs]; exact hp.2) (by omega)) ?_
  repeat' left
  rw [lt_cross]
  exact wd_same h
theorem before_wF {k m n : Nat} {p q : Rat} {x y : PyData} {st : Mem} {Q : WQ} (hx : Fr m x p) (hy : Fr n y q) (hn : m + n < 100000000)
    (h : Q (.val (.bool (decide (p < q)))) st) : wC (callN pr (k + 1)) i_before [.val x, .val y] st Q := by
  rw [hx.e, hy.e]; exact before_wC hx.s hy.s hn h

theorem draw_wC {k n : Nat} {m : Int} {b st : Mem} {Q : WQ} (T : Tp b n st) (h0 : 0 < m) (h1 : m < 2 ^ 200)
    (h : ∀ v st', 0 ≤ v → v < m → Tp b n st' → Q (.val (.int v)) st') : wC (callN pr (k + 1)) i__law_draw [.loc n, .val (.int m)] st Q := by
  obtain ⟨d, x, hc, hd, hl, hx, hx2⟩ := T.cell
  have lk : look st (.loc n) = some (.list [.int d, .int x]) := by simp [look, hc]
  have hn : n < st.length := (List.getElem?_eq_some_iff.mp hc).1
  have lm : m.natAbs.log2 < 9000 := by have := log2_le (a := m.natAbs) (n := 200) (by omega); omega
  refine wc_call P__law_draw rfl ?_
  have st0 : ∀ (y z : Int), look (st.set n (true, [.int y, .int z])) (.loc n) = some (.list [.int y, .int z]) := fun y z => by simp [look, hn]
  have dn : ∀ (y z : Int) (v : Int) (r : Rho), 0 ≤ v → v < m → Tp b n (st.set n (true, [.int y, .int z])) → doneK false st.length Q (.ret (.val (.int v))) r (st.set n (true, [.int y, .int z])) := fun y z v r a c T' =>
    wd_tp (b := st) (n := n) ⟨by rw [List.length_set], fun j hj => by rw [List.getElem?_set_ne (fun e => hj e.symm)], T'.cell⟩ (h _ _ a c T')
  repeat' left
  · refine dn _ _ _ _ (Int.emod_nonneg _ (by omega)) (Int.emod_lt_of_pos _ h0) (T.set (Int.ediv_nonneg hd (by omega)) ?_ hx hx2)
    have h2 : (d / m).natAbs ≤ d.natAbs := Int.natAbs_ediv_le_natAbs d m
    by_cases hz : (d / m).natAbs = 0
    · rw [hz]; decide
    · exact Nat.le_of_lt_succ ((Nat.log2_lt hz).mpr (Nat.lt_of_le_of_lt h2 (lt_log2 hl)))
  · refine wp_is (st0 _ _) ?_
    repeat' left
    refine wp_is (st0 _ _) ?_
    repeat' left
    exact dn _ _ _ _ (Int.emod_nonneg _ (by omega)) (Int.emod_lt_of_pos _ h0) (T.set hd hl (by omega) (by omega))

theorem lpart_wC {k n : Nat} {t b : Int} {st : Mem} {Q : WQ} (hb : b ≠ 0) (ht : t.natAbs < 2 ^ n) (hb2 : b.natAbs < 2 ^ n) (hn : n < 9000)
    (h : Q (.val (F ((t : Rat) / (b : Rat)))) st) : wC (callN pr (k + 1)) i__law_part [.val (.int t), .val (.int b)] st Q := by
  refine wc_call P__law_part rfl ?_
  repeat' left
  refine gcd_whl (t := t) (b := b) hb (by decide) (show 2 < 5 by decide) (show 3 < 5 by decide) rfl rfl fun r' hl ho hg => ?_
  have g0 := ho 0 (by decide) (by decide)
  have g1 := ho 1 (by decide) (by decide)
  obtain ⟨a0, a1, a2, a3, a4, rfl⟩ : ∃ a0 a1 a2 a3 a4, r' = [a0, a1, a2, a3, a4] := by
    match r', hl with
    | [a0, a1, a2, a3, a4], _ => exact ⟨_, _, _, _, _, rfl⟩
  obtain rfl : a0 = some (.val (.int t)) := by simpa using g0
  obtain rfl : a1 = some (.val (.int b)) := by simpa using g1
  obtain rfl : a2 = some (.val (.int (Int.gcd t b : Nat))) := by simpa using hg
  have gp := gcd_pos (a := t) hb
  have gl : ((Int.gcd t b : Nat) : Int).natAbs.log2 < 9000 := log2_lt_of (gcd_lt (a := t) hb hb2) hn
  repeat' left
  rw [sign_is hb]
  have sl : b.sign.natAbs < 2 ^ 1 := by rw [Int.natAbs_sign_of_ne_zero hb]; decide
  refine wb_mul (log2_sum sl ht (by omega)) ?_
  repeat' left
  refine wb_mul (log2_sum sl hb2 (by omega)) ?_
  repeat' left
  rw [part_num hb, part_den hb]
  exact wd_same h

theorem lsum_wC {k m n : Nat} {p q : Rat} {st : Mem} {Q : WQ} (hp : Sz m p) (hq : Sz n q) (hn : m + n + 1 < 9000)
    (h : Q (.val (F (p + q))) st) : wC (callN pr (k + 2)) i__law_sum [.val (F p), .val (F q)] st Q := by
  refine wc_call P__law_sum rfl ?_
  repeat' left
  refine wb_mul (log2_sum hp.1 (by rw [den_natAbs]; exact hq.2) (by omega)) ?_
  repeat' left
  refine wb_mul (log2_sum hq.1 (by rw [den_natAbs]; exact hp.2) (by omega)) ?_
  repeat' left
  refine wb_mul (log2_sum (by rw [den_natAbs]; exact hp.2) (by rw [den_natAbs]; exact hq.2) (show m + n < _ by omega)) ?_
  repeat' left
  refine lpart_wC (n := m + n + 1) (dens_ne p q) (natAbs_add_lt (cross hp hq) (by rw [Nat.add_comm]; exact cross hq hp)) (lt_pow_succ (crossD hp hq)) hn ?_
  repeat' left
  rw [rat_add]
  exact wd_same h
theorem lsum_wF {k m n : Nat} {p q : Rat} {x y : PyData} {st : Mem} {Q : WQ} (hx : Fr m x p) (hy : Fr n y q) (hn : m + n + 1 < 9000)
    (h : Q (.val (F (p + q))) st) : wC (callN pr (k + 2)) i__law_sum [.val x, .val y] st Q := by
  rw [hx.e, hy.e]; exact lsum_wC hx.s hy.s hn h

theorem lproduct_wC {k m n : Nat} {p q : Rat} {st : Mem} {Q : WQ} (hp : Sz m p) (hq : Sz n q) (hn : m + n < 9000)
    (h : Q (.val (F (p * q))) st) : wC (callN pr (k + 2)) i__law_product [.val (F p), .val (F q)] st Q := by
  refine wc_call P__law_product rfl ?_
  repeat' left
  refine wb_mul (log2_sum hp.1 hq.1 (by omega)) ?_
  repeat' left
  refine wb_mul (log2_sum (by rw [den_natAbs]; exact hp.2) (by rw [den_natAbs]; exact hq.2) (show m + n < _ by omega)) ?_
  repeat' left
  refine lpart_wC (n := m + n) (dens_ne p q) (natAbs_mul_lt hp.1 hq.1) (crossD hp hq) hn ?_
  repeat' left
  rw [rat_mul]
  exact wd_same h
theorem lproduct_wF {k m n : Nat} {p q : Rat} {x y : PyData} {st : Mem} {Q : WQ} (hx : Fr m x p) (hy : Fr n y q) (hn : m + n < 9000)
    (h : Q (.val (F (p * q))) st) : wC (callN pr (k + 2)) i__law_product [.val x, .val y] st Q := by
  rw [hx.e, hy.e]; exact lproduct_wC hx.s hy.s hn h

local macro_rules | `(tactic| left) => `(tactic| (refine draw_wC (by assumption) (by first | decide | omega) (by first | decide | omega) ?_; intro v st' hv0 hv1 hT))

theorem span_wC {k n : Nat} {b st : Mem} {Q : WQ} (T : Tp b n st) (h : ∀ q st', Tp b n st' → Sz 10 q → 0 < q → Q (.val (F q)) st') : wC (callN pr (k + 2)) i__law_span [.loc n] st Q := by
  have T0 := T.base
  refine wc_call P__law_span rfl ?_
  repeat' left
  · rename_i v st1 _ _ _ _ w st2 _ _ T2
    exact wd_tp (b := st) T2 (h ((1 + w : Int) : Rat) _ (T.trans T2) (sz_int (by decide) (by omega)) (Rat.intCast_pos.mpr (by omega)))
  · rename_i v st1 _ _ _ _ w st2 _ _ T2
    refine lpart_wC (n := 10) (by omega) (by omega) (by omega) (by decide) ?_
    repeat' left
    exact wd_tp (b := st) T2 (h _ _ (T.trans T2) (sz_part (by omega) (by omega) (by omega)) (rat_div_pos (by omega) (by omega)))

theorem spanG_wC {k n : Nat} {b st : Mem} {Q : WQ} (T : Tp b n st) (h : ∀ q st', Tp b n st' → Ov 6 9 q → 0 < q → Q (.val (F q)) st') : wC (callN pr (k + 2)) i__law_span [.loc n] st Q := by
  have T0 := T.base
  refine wc_call P__law_span rfl ?_
  repeat' left
  · rename_i v st1 _ _ _ _ w st2 _ _ T2
    exact wd_tp (b := st) T2 (h ((1 + w : Int) : Rat) _ (T.trans T2) (gr_int (by decide) (by omega)) (Rat.intCast_pos.mpr (by omega)))
  · rename_i v st1 _ _ _ _ w st2 _ _ T2
    refine lpart_wC (n := 10) (by omega) (by omega) (by omega) (by decide) ?_
    repeat' left
    refine wd_tp (b := st) T2 (h _ _ (T.trans T2) ?_ (rat_div_pos (by omega) (by omega)))
    have : v = 3 ∨ v = 4 := by omega
    rcases this with rfl | rfl
    · exact gr_part (d := 3) (by decide) (by decide) (by decide) (by omega)
    · exact gr_part (d := 2) (by decide) (by decide) (by decide) (by omega)

theorem place_wC {k n : Nat} {b st : Mem} {Q : WQ} (T : Tp b n st) (h : ∀ q st', Tp b n st' → Ov 6 30 q → Q (.val (F q)) st') : wC (callN pr (k + 2)) i__law_place [.loc n] st Q := by
  have T0 := T.base
  refine wc_call P__law_place rfl ?_
  repeat' left
  · rename_i v1 s1 _ _ _ _ v2 s2 _ _ T2
    exact wd_tp (b := st) T2 (h ((v2 - 3 : Int) : Rat) _ (T.trans T2) (gr_int (by decide) (by omega)))
  · rename_i v1 s1 _ _ _ _ _ v2 s2 _ _ T2
    refine lpart_wC (n := 6) (by decide) (by omega) (by decide) (by decide) ?_
    repeat' left
    exact wd_tp (b := st) T2 (h _ _ (T.trans T2) (gr_part (d := 3) (by decide) (by decide) (by decide) (by omega)))
  · rename_i v1 s1 _ _ _ _ _ v2 s2 _ _ T2
    refine lpart_wC (n := 6) (by decide) (by omega) (by decide) (by decide) ?_
    repeat' left
    exact wd_tp (b := st) T2 (h _ _ (T.trans T2) (gr_part (d := 2) (by decide) (by decide) (by decide) (by omega)))

theorem tape_wC {k : Nat} {i : Int} {ns : List Int} {st : Mem} {Q : WQ} (h0 : 0 ≤ i) (h1 : i < 1000) (hz : ∀ z ∈ ns, z.natAbs.log2 ≤ 1048576)
    (h : ∀ c, Tp (st ++ [c]) st.length (st ++ [c]) → Q (.loc st.length) (st ++ [c])) : wC (callN pr (k + 1)) i__law_tape [.scr ns, .val (.int i)] st Q := by
  refine wc_call P__law_tape rfl ?_
  repeat' left
  · rename_i hb
    refine wx_scr h0 (by simpa using hb) fun c hc => ?_
    have hl := hz c hc
    repeat' left
    refine wb_mul (by
      refine Nat.lt_of_le_of_lt (Nat.add_le_add_left (int_b _) _) ?_
      simp only [Int.natAbs_natCast]
      omega) ?_
    repeat' left
    exact wd_new (h _ (Tp.new (by split <;> omega) (abs_mul_int hl) (by omega) (by omega)))
  · exact wd_new (h _ (Tp.new (by split <;> omega) (abs_mul_int (by decide)) (by omega) (by omega)))

/-- how much of the way is done -/
def shareR (a c : Cn) (m : Rat) : Rat := (m - a.m) / (c.m - a.m)
def spotV (a c : Cn) (m : Rat) : PyData := .tuple [F (a.x + shareR a c m * (c.x - a.x)), F (a.y + shareR a c m * (c.y - a.y)), F (a.z + shareR a c m * (c.z - a.z))]
theorem share_sz {a c : Cn} {m : Rat} {N M : Nat} (ha : Cz N a) (hc : Cz N c) (hm : Sz M m) (hne : c.m - a.m ≠ 0) : Sz (M + N + 1 + (N + N + 1)) (shareR a c m) := sz_div (sz_sub hm ha.1) (sz_sub hc.1 ha.1) hne

/-- where a machine is at a moment -/
def spotD : List Cn → Rat → PyData
  | a :: c :: cs, m => if ¬ m < a.m ∧ ¬ c.m < m then spotV a c m else spotD (c :: cs) m
  | _, _ => .none
theorem zip_pairs {K : Cn → PyData} : ∀ cs : List Cn, List.zipWith (fun u v => PyData.tuple [u, v]) (cs.map K) (cs.map K).tail = (cs.zip cs.tail).map fun p => .tuple [K p.1, K p.2]
  | [] => rfl
  | [a] => rfl
  | a :: c :: cs => by
    have ih := zip_pairs (K := K) (c :: cs)
    simp only [List.map_cons, List.tail_cons, List.zipWith_cons_cons, List.zip_cons_cons] at ih ⊢
    rw [ih]

theorem spotD_before {m : Rat} : ∀ {cs : List Cn}, (∀ c ∈ cs, m < c.m) → spotD cs m = .none
  | [], _ => rfl
  | [a], _ => rfl
  | a :: c :: cs, h => by
    rw [spotD, if_neg (fun z => z.1 (h a (by simp)))]
    exact spotD_before fun d hd => h d (List.mem_cons_of_mem _ hd)
theorem spotD_behind {m : Rat} : ∀ {cs : List Cn}, (∀ c ∈ cs, c.m < m) → spotD cs m = .none
  | [], _ => rfl
  | [a], _ => rfl
  | a :: c :: cs, h => by
    rw [spotD, if_neg (fun z => z.2 (h c (by simp)))]
    exact spotD_behind fun d hd => h d (List.mem_cons_of_mem _ hd)
theorem spotV_at {a c : Cn} (h : c.m - a.m ≠ 0) : spotV a c a.m = .tuple [F a.x, F a.y, F a.z] ∧ spotV a c c.m = .tuple [F c.x, F c.y, F c.z] := by
  have h0 : shareR a c a.m = 0 := by unfold shareR; rw [Rat.div_def, Rat.sub_self, Rat.zero_mul]
  have h1 : shareR a c c.m = 1 := by unfold shareR; rw [Rat.div_def, Rat.mul_inv_cancel _ h]
  constructor
  · unfold spotV; rw [h0]; simp only [Rat.zero_mul, Rat.add_zero]
  · unfold spotV; rw [h1]; simp only [Rat.one_mul]
    rw [show a.x + (c.x - a.x) = c.x by grind, show a.y + (c.y - a.y) = c.y by grind, show a.z + (c.z - a.z) = c.z by grind]
theorem spotD_corner : ∀ {cs : List Cn}, cs.Pairwise (fun a b => a.m < b.m) → 2 ≤ cs.length → ∀ c ∈ cs, spotD cs c.m = .tuple [F c.x, F c.y, F c.z]
  | [], _, h, _, _ => by simp at h
  | [a], _, h, _, _ => by simp at h
  | [a, b], hp, _, c, hc => by
    have hab := (List.pairwise_cons.mp hp).1 b (by simp)
    have hne : b.m - a.m ≠ 0 := by grind
    simp only [List.mem_cons, List.not_mem_nil, or_false] at hc
    rcases hc with rfl | rfl
    · rw [spotD, if_pos ⟨by grind, by grind⟩]; exact (spotV_at hne).1
    · rw [spotD, if_pos ⟨by grind, by grind⟩]; exact (spotV_at hne).2
  | a :: b :: d :: cs, hp, _, c, hc => by
    obtain ⟨h1, h2⟩ := List.pairwise_cons.mp hp
    have hab := h1 b (by simp)
    have hne : b.m - a.m ≠ 0 := by grind
    rcases List.mem_cons.mp hc with rfl | hc
    · rw [spotD, if_pos ⟨by grind, by grind⟩]; exact (spotV_at hne).1
    rcases List.mem_cons.mp hc with e | hc'
    · subst e
      rw [spotD, if_pos ⟨by grind, by grind⟩]; exact (spotV_at hne).2
    · have hbc := (List.pairwise_cons.mp h2).1 c hc'
      rw [spotD, if_neg (fun z => z.2 hbc)]
      exact spotD_corner h2 (by simp) c hc
/-- a place's share of a plan of one length -/
theorem spotD_cases {cs : List Cn} {m : Rat} : spotD cs m = .none ∨ ∃ a c, a ∈ cs ∧ c ∈ cs ∧ spotD cs m = spotV a c m ∧ ¬ m < a.m ∧ ¬ c.m < m ∧ ∃ xs ys, cs = xs ++ a :: c :: ys := by
  induction cs with
  | nil => exact .inl rfl
  | cons a cs ih =>
    cases cs with
    | nil => exact .inl rfl
    | cons c cs =>
      by_cases h : ¬ m < a.m ∧ ¬ c.m < m
      · exact .inr ⟨a, c, by simp, by simp, by rw [spotD, if_pos h], h.1, h.2, [], cs, rfl⟩
      · rcases ih with ih | ⟨x, y, h1, h2, h3, h4, h5, xs, ys, e⟩
        · exact .inl (by rw [spotD, if_neg h]; exact ih)
        · exact .inr ⟨x, y, List.mem_cons_of_mem _ h1, List.mem_cons_of_mem _ h2, by rw [spotD, if_neg h]; exact h3, h4, h5, a :: xs, ys, by rw [e]; rfl⟩
theorem pair_ne {cs xs ys : List Cn} {a c : Cn} (hp : cs.Pairwise (fun a b => a.m < b.m)) (e : cs = xs ++ a :: c :: ys) : a.m < c.m := by
  rw [e, List.pairwise_append] at hp
  exact (List.pairwise_cons.mp hp.2.1).1 c (by simp)
theorem spotV_nc {a c : Cn} {m : Rat} {N M : Nat} (ha : Cz N a) (hc : Cz N c) (hm : Sz M m) (hne : c.m - a.m ≠ 0) (hb : M + N + 1 + (N + N + 1) + (N + N + 1) + N + 1 ≤ 1900) : Tn 2 20000 (spotV a c m) := by
  have ss := share_sz ha hc hm hne
  have f : ∀ {p q : Rat}, Sz N p → Sz N q → Nc 1 3812 (F (p + shareR a c m * (q - p))) := fun hp hq => nc_F ((sz_add hp (sz_mul ss (sz_sub hq hp))).mono (by omega : _ ≤ 1900)) (by decide)
  exact ⟨(nc_tuple (ncl_cons (f ha.2.1 hc.2.1) (ncl_cons (f ha.2.2.1 hc.2.2.1) (ncl_cons (f ha.2.2.2 hc.2.2.2) ncl_nil)))).mono (by decide) (by decide), .inr ⟨_, .inr rfl⟩⟩
theorem spotD_tn {cs : List Cn} {m : Rat} {N M : Nat} (hcs : ∀ c ∈ cs, Cz N c) (hp : cs.Pairwise (fun a b => a.m < b.m)) (hm : Sz M m) (hb : M + N + 1 + (N + N + 1) + (N + N + 1) + N + 1 ≤ 1900) : Tn 2 20000 (spotD cs m) := by
  rcases spotD_cases (cs := cs) (m := m) with h | ⟨a, c, ha, hc, e, _, _, xs, ys, e2⟩
  · rw [h]; exact tn_none.mono (by decide) (by decide)
  · rw [e]
    have := pair_ne hp e2
    exact spotV_nc (hcs a ha) (hcs c hc) hm (by grind) hb
theorem idx_lastT {ds : List PyData} {d : PyData} (h : ds.getLast? = some d) : idxD (.tuple ds) (.int (-1)) = some d := idx_last (ds := ds) h
theorem idx_zeroT {ds : List PyData} {d : PyData} : idxD (.tuple (d :: ds)) (.int 0) = some d := idx_zero
/-- the ends of a plan -/
theorem ends_of {cs : List Cn} (hp : cs.Pairwise (fun a b => a.m < b.m)) (h2 : 2 ≤ cs.length) : ∃ a z t, cs = a :: t ∧ cs.getLast? = some z ∧ a ∈ cs ∧ z ∈ cs ∧ a.m < z.m ∧ (∀ c ∈ cs, a.m ≤ c.m) ∧ (∀ c ∈ cs, c.m ≤ z.m) := by
  match cs, h2 with
  | a :: b :: t, _ =>
    obtain ⟨z, hz⟩ : ∃ z, (a :: b :: t).getLast? = some z := ⟨(a :: b :: t).getLast (by simp), List.getLast?_eq_some_getLast (by simp)⟩
    have hzm : z ∈ (a :: b :: t) := List.mem_of_getLast? hz
    obtain ⟨h1, h2⟩ := List.pairwise_cons.mp hp
    have hzt : z ∈ (b :: t) := by
      rw [List.getLast?_cons_cons] at hz
      exact List.mem_of_getLast? hz
    refine ⟨a, z, b :: t, rfl, hz, by simp, hzm, h1 z hzt, fun c hc => ?_, fun c hc => ?_⟩
    · rcases List.mem_cons.mp hc with rfl | hc
      · exact Rat.le_refl
      · exact Rat.le_of_lt (h1 c hc)
    · obtain ⟨xs, e⟩ : ∃ xs, (a :: b :: t) = xs ++ [z] := by
        obtain ⟨xs, e⟩ := List.getLast?_eq_some_iff.mp hz
        exact ⟨xs, e⟩
      rw [e, List.pairwise_append] at hp
      rw [e] at hc
      rcases List.mem_append.mp hc with hc | hc
      · exact Rat.le_of_lt (hp.2.2 c hc z (by simp))
      · rw [List.mem_singleton.mp hc]; exact Rat.le_refl
theorem last_map {cs : List Cn} {K : Cn → PyData} {z : Cn} (h : cs.getLast? = some z) : (cs.map K).getLast? = some (K z) := by
  rw [List.getLast?_map, h]; rfl

def spotC (a c : Cn) (m : Rat) : Cn := ⟨m, a.x + shareR a c m * (c.x - a.x), a.y + shareR a c m * (c.y - a.y), a.z + shareR a c m * (c.z - a.z)⟩
def spT (c : Cn) : PyData := .tuple [F c.x, F c.y, F c.z]
def spotA : List Cn → Rat → Cn
  | a :: c :: cs, m => if ¬ m < a.m ∧ ¬ c.m < m then spotC a c m else spotA (c :: cs) m
  | _, m => ⟨m, 0, 0, 0⟩
theorem spotA_m : ∀ {cs : List Cn} {m : Rat}, (spotA cs m).m = m
  | [], _ => rfl
  | [a], _ => rfl
  | a :: c :: cs, m => by
    rw [spotA]
    split
    · rfl
    · exact spotA_m
theorem spotD_in {m : Rat} : ∀ {a : Cn} {cs : List Cn}, (a :: cs).Pairwise (fun a b => a.m < b.m) → a.m ≤ m → (∃ z ∈ cs, m ≤ z.m) → spotD (a :: cs) m = spT (spotA (a :: cs) m)
  | a, [], _, _, h => by obtain ⟨z, hz, _⟩ := h; cases hz
  | a, c :: cs, hp, ha, ⟨z, hz, hm⟩ => by
    rw [spotD, spotA]
    by_cases hc : c.m < m
    · rw [if_neg (fun h => h.2 hc), if_neg (fun h => h.2 hc)]
      refine spotD_in (List.pairwise_cons.mp hp).2 (Rat.le_of_lt hc) ⟨z, ?_, hm⟩
      rcases List.mem_cons.mp hz with rfl | hz
      · grind
      · exact hz
    · rw [if_pos ⟨Rat.not_lt.mpr ha, hc⟩, if_pos ⟨Rat.not_lt.mpr ha, hc⟩]
      rfl
theorem spotC_at {a c : Cn} (h : c.m - a.m ≠ 0) : spotC a c a.m = a ∧ spotC a c c.m = c := by
  have h0 : shareR a c a.m = 0 := by unfold shareR; rw [Rat.div_def, Rat.sub_self, Rat.zero_mul]
  have h1 : shareR a c c.m = 1 := by unfold shareR; rw [Rat.div_def, Rat.mul_inv_cancel _ h]
  obtain ⟨am, ax, ay, az⟩ := a
  obtain ⟨cm, cx, cy, cz⟩ := c
  constructor
  · unfold spotC; rw [h0]; simp only [Rat.zero_mul, Rat.add_zero]
  · unfold spotC; rw [h1]; simp only [Rat.one_mul]
    rw [show ax + (cx - ax) = cx by grind, show ay + (cy - ay) = cy by grind, show az + (cz - az) = cz by grind]
/-- a spot by any piece that has the moment -/
theorem spotA_uniq {m : Rat} {a c : Cn} {ys : List Cn} : ∀ {xs cs : List Cn}, cs = xs ++ a :: c :: ys → cs.Pairwise (fun a b => a.m < b.m) → a.m ≤ m → m ≤ c.m → spotA cs m = spotC a c m
  | [], cs, e, hp, h1, h2 => by
    subst e
    rw [List.nil_append, spotA, if_pos ⟨Rat.not_lt.mpr h1, Rat.not_lt.mpr h2⟩]
  | [x], cs, e, hp, h1, h2 => by
    subst e
    have hxa : x.m < a.m := (List.pairwise_cons.mp hp).1 a (by simp)
    have hac : a.m < c.m := (List.pairwise_cons.mp (List.pairwise_cons.mp hp).2).1 c (by simp)
    show spotA (x :: a :: c :: ys) m = _
    rw [spotA]
    by_cases h : a.m < m
    · rw [if_neg (fun z => z.2 h), spotA, if_pos ⟨Rat.not_lt.mpr h1, Rat.not_lt.mpr h2⟩]
    · obtain rfl : m = a.m := by grind
      rw [if_pos ⟨by grind, h⟩, (spotC_at (by grind)).2, (spotC_at (by grind)).1]
  | x :: y :: xs, cs, e, hp, h1, h2 => by
    subst e
    have hp2 := (List.pairwise_cons.mp hp).2
    have hy : y.m < a.m := (List.pairwise_cons.mp hp2).1 a (by simp)
    show spotA (x :: y :: (xs ++ a :: c :: ys)) m = _
    rw [spotA, if_neg (fun z => z.2 (by grind))]
    exact spotA_uniq (xs := y :: xs) rfl hp2 h1 h2
theorem spotA_cases {m : Rat} : ∀ {a : Cn} {cs : List Cn}, (a :: cs).Pairwise (fun a b => a.m < b.m) → a.m ≤ m → (∃ z ∈ cs, m ≤ z.m) → ∃ xs p s ys, a :: cs = xs ++ p :: s :: ys ∧ p.m ≤ m ∧ m ≤ s.m ∧ spotA (a :: cs) m = spotC p s m
  | a, [], _, _, h => by obtain ⟨z, hz, _⟩ := h; cases hz
  | a, c :: cs, hp, ha, ⟨z, hz, hm⟩ => by
    by_cases hc : c.m < m
    · obtain ⟨xs, p, s, ys, e, h1, h2, h3⟩ := spotA_cases (cs := cs) (List.pairwise_cons.mp hp).2 (Rat.le_of_lt hc) ⟨z, by
        rcases List.mem_cons.mp hz with rfl | hz
        · grind
        · exact hz, hm⟩
      exact ⟨a :: xs, p, s, ys, by rw [e]; rfl, h1, h2, by rw [spotA, if_neg (fun h => h.2 hc)]; exact h3⟩
    · exact ⟨[], a, c, cs, rfl, ha, Rat.not_lt.mp hc, by rw [spotA, if_pos ⟨Rat.not_lt.mpr ha, hc⟩]⟩
theorem line_on {p s f m x y : Rat} (h1 : s - p ≠ 0) (h2 : s - f ≠ 0) : (x + (f - p) / (s - p) * (y - x)) + (m - f) / (s - f) * (y - (x + (f - p) / (s - p) * (y - x))) = x + (m - p) / (s - p) * (y - x) := by
  grind
theorem spotC_on {p s : Cn} {f m : Rat} (h1 : p.m < s.m) (h2 : f < s.m) : spotC (spotC p s f) s m = spotC p s m := by
  have e1 : s.m - p.m ≠ 0 := by grind
  have e2 : s.m - f ≠ 0 := by grind
  simp only [spotC, shareR, Cn.mk.injEq, true_and]
  exact ⟨line_on e1 e2, line_on e1 e2, line_on e1 e2⟩
/-- a plan from a moment on has the plan's spots -/
theorem rest_spot {xs ys : List Cn} {p s : Cn} {f m : Rat} (hp : (xs ++ p :: s :: ys).Pairwise (fun a b => a.m < b.m)) (h1 : p.m ≤ f) (h2 : f < s.m) (h3 : f ≤ m) (h4 : ∃ z ∈ s :: ys, m ≤ z.m) : spotA (spotC p s f :: s :: ys) m = spotA (xs ++ p :: s :: ys) m := by
  have hps := pair_ne hp rfl
  have hs2 : (s :: ys).Pairwise (fun a b => a.m < b.m) := (List.pairwise_cons.mp (List.pairwise_append.mp hp).2.1).2
  have hr : (spotC p s f :: s :: ys).Pairwise (fun a b => a.m < b.m) := List.pairwise_cons.mpr ⟨fun c hc => by
    show f < c.m
    rcases List.mem_cons.mp hc with rfl | hc
    · exact h2
    · have := (List.pairwise_cons.mp hs2).1 c hc; grind, hs2⟩
  obtain ⟨us, a, c, vs, e, g1, g2, g3⟩ := spotA_cases hr h3 h4
  rw [g3]
  cases us with
  | nil =>
    simp only [List.nil_append, List.cons.injEq] at e
    obtain ⟨rfl, rfl, rfl⟩ := e
    rw [spotC_on hps h2]
    exact (spotA_uniq rfl hp (Rat.le_trans h1 h3) g2).symm
  | cons u us =>
    simp only [List.cons_append, List.cons.injEq] at e
    rw [e.2] at hp ⊢
    have e3 : xs ++ p :: (us ++ a :: c :: vs) = (xs ++ p :: us) ++ a :: c :: vs := by simp
    exact (spotA_uniq e3 hp g1 g2).symm
theorem split_mom {f : Rat} : ∀ {a : Cn} {cs : List Cn}, (a :: cs).Pairwise (fun a b => a.m < b.m) → a.m ≤ f → (∃ z ∈ cs, f < z.m) → ∃ xs p s ys, a :: cs = xs ++ p :: s :: ys ∧ p.m ≤ f ∧ f < s.m
  | a, [], _, _, h => by obtain ⟨z, hz, _⟩ := h; cases hz
  | a, c :: cs, hp, ha, ⟨z, hz, hm⟩ => by
    by_cases hc : c.m ≤ f
    · obtain ⟨xs, p, s, ys, e, h1, h2⟩ := split_mom (cs := cs) (List.pairwise_cons.mp hp).2 hc ⟨z, by
        rcases List.mem_cons.mp hz with rfl | hz
        · grind
        · exact hz, hm⟩
      exact ⟨a :: xs, p, s, ys, by rw [e]; rfl, h1, h2⟩
    · exact ⟨[], a, c, cs, rfl, ha, Rat.not_le.mp hc⟩
theorem filter_behind {xs ys : List Cn} {p s : Cn} {f : Rat} (hp : (xs ++ p :: s :: ys).Pairwise (fun a b => a.m < b.m)) (h1 : p.m ≤ f) (h2 : f < s.m) : (xs ++ p :: s :: ys).filter (fun c => decide (f < c.m)) = s :: ys := by
  rw [List.pairwise_append] at hp
  have hs2 := (List.pairwise_cons.mp hp.2.1).2
  rw [List.filter_append, List.filter_cons_of_neg (by rw [decide_eq_true_eq]; exact Rat.not_lt.mpr h1), List.filter_eq_nil_iff.mpr (fun x hx => by have := hp.2.2 x hx p (by simp); simp only [decide_eq_true_eq]; grind), List.nil_append, List.filter_eq_self]
  intro c hc
  rw [decide_eq_true_eq]
  rcases List.mem_cons.mp hc with rfl | hc
  · exact h2
  · have := (List.pairwise_cons.mp hs2).1 c hc; grind
def inner (cs : List Cn) (f l : Rat) : List Cn := cs.filter (fun c => decide (f < c.m) && decide (c.m < l))
/-- the plan from one moment to another one -/
def partL (cs : List Cn) (f l : Rat) : List Cn := spotA cs f :: (inner cs f l ++ [spotA cs l])
def partD (a z : Cn) (cs : List Cn) (b e : Rat) : PyData := if rmax b a.m < rmin e z.m then .tuple ((partL cs (rmax b a.m) (rmin e z.m)).map C) else .none
theorem spotC_cz {a c : Cn} {m : Rat} {N M : Nat} (ha : Cz N a) (hc : Cz N c) (hm : Sz M m) (hne : c.m - a.m ≠ 0) : Cz (M + N + 1 + (N + N + 1) + (N + N + 1) + N + 1) (spotC a c m) := by
  have ss := share_sz ha hc hm hne
  have f : ∀ {p q : Rat}, Sz N p → Sz N q → Sz (M + N + 1 + (N + N + 1) + (N + N + 1) + N + 1) (p + shareR a c m * (q - p)) := fun hp hq => (sz_add hp (sz_mul ss (sz_sub hq hp))).mono (by omega)
  exact ⟨hm.mono (by omega), f ha.2.1 hc.2.1, f ha.2.2.1 hc.2.2.1, f ha.2.2.2 hc.2.2.2⟩
theorem spotA_cz {a : Cn} {cs : List Cn} {m : Rat} {N M : Nat} (hcs : ∀ c ∈ a :: cs, Cz N c) (hp : (a :: cs).Pairwise (fun a b => a.m < b.m)) (ha : a.m ≤ m) (hz : ∃ z ∈ cs, m ≤ z.m) (hm : Sz M m) : Cz (M + N + 1 + (N + N + 1) + (N + N + 1) + N + 1) (spotA (a :: cs) m) := by
  obtain ⟨xs, p, s, ys, e, _, _, e2⟩ := spotA_cases hp ha hz
  rw [e2]
  have := pair_ne hp e
  exact spotC_cz (hcs p (by rw [e]; simp)) (hcs s (by rw [e]; simp)) hm (by grind)
theorem mem_inner {cs : List Cn} {f l : Rat} {c : Cn} : c ∈ inner cs f l ↔ c ∈ cs ∧ f < c.m ∧ c.m < l := by
  unfold inner
  rw [List.mem_filter, Bool.and_eq_true, decide_eq_true_eq, decide_eq_true_eq]
theorem partL_cz {a z : Cn} {cs : List Cn} {f l : Rat} {N M : Nat} (hcs : ∀ c ∈ a :: cs, Cz N c) (hp : (a :: cs).Pairwise (fun a b => a.m < b.m)) (hz : z ∈ cs) (h1 : a.m ≤ f) (h2 : f < l) (h3 : l ≤ z.m) (hf : Sz M f) (hl : Sz M l) : ∀ c ∈ partL (a :: cs) f l, Cz (M + N + 1 + (N + N + 1) + (N + N + 1) + N + 1) c := by
  intro c hc
  have hfl := Rat.le_of_lt h2
  unfold partL at hc
  rcases List.mem_cons.mp hc with rfl | hc
  · exact spotA_cz hcs hp h1 ⟨z, hz, Rat.le_trans hfl h3⟩ hf
  rcases List.mem_append.mp hc with hc | hc
  · exact (hcs c (mem_inner.mp hc).1).mono (by omega)
  · rw [List.mem_singleton.mp hc]
    exact spotA_cz hcs hp (Rat.le_trans h1 hfl) ⟨z, hz, h3⟩ hl
theorem partL_sorted {cs : List Cn} {f l : Rat} (hp : cs.Pairwise (fun a b => a.m < b.m)) (h2 : f < l) : (partL cs f l).Pairwise (fun a b => a.m < b.m) := by
  unfold partL
  rw [List.pairwise_cons, List.pairwise_append]
  refine ⟨fun c hc => ?_, hp.sublist (List.filter_sublist), by simp, fun c hc d hd => ?_⟩
  · rw [spotA_m]
    rcases List.mem_append.mp hc with hc | hc
    · exact (mem_inner.mp hc).2.1
    · rw [List.mem_singleton.mp hc, spotA_m]; exact h2
  · rw [List.mem_singleton.mp hd, spotA_m]
    exact (mem_inner.mp hc).2.2
theorem rmax_le {p q : Rat} : q ≤ rmax p q ∧ p ≤ rmax p q := by unfold rmax; split <;> constructor <;> grind
theorem rmin_le {p q : Rat} : rmin p q ≤ q ∧ rmin p q ≤ p := by unfold rmin; split <;> constructor <;> grind
theorem part_rest {a z : Cn} {cs : List Cn} {f : Rat} (hp : (a :: cs).Pairwise (fun a b => a.m < b.m)) (hz : (a :: cs).getLast? = some z) (h1 : a.m ≤ f) (h2 : f < z.m) :
    ∃ xs p s ys, a :: cs = xs ++ p :: s :: ys ∧ p.m ≤ f ∧ f < s.m ∧ partL (a :: cs) f z.m = spotC p s f :: s :: ys ∧ z ∈ s :: ys ∧ ∀ c ∈ s :: ys, c.m ≤ z.m := by
  obtain ⟨us, e⟩ := List.getLast?_eq_some_iff.mp hz
  have hp0 := hp
  rw [e, List.pairwise_append] at hp0
  have hus : ∀ c ∈ us, c.m < z.m := fun c hc => hp0.2.2 c hc z (by simp)
  have hzc : z ∈ cs := by
    cases us with
    | nil => simp only [List.nil_append, List.cons.injEq] at e; obtain ⟨rfl, rfl⟩ := e; grind
    | cons u us => simp only [List.cons_append, List.cons.injEq] at e; rw [e.2]; simp
  obtain ⟨xs, p, s, ys, e1, g1, g2⟩ := split_mom hp h1 ⟨z, hzc, h2⟩
  have hp1 := hp
  rw [e1] at hp1
  have e2 : spotA (a :: cs) f = spotC p s f := spotA_uniq e1 hp g1 (Rat.le_of_lt g2)
  have e3 : spotA (a :: cs) z.m = z := by
    obtain ⟨vs, u, rfl⟩ : ∃ vs u, us = vs ++ [u] := by
      rcases List.eq_nil_or_concat us with rfl | ⟨vs, u, h⟩
      · simp only [List.nil_append, List.cons.injEq] at e; obtain ⟨rfl, rfl⟩ := e; cases hzc
      · exact ⟨vs, u, by rw [h, List.concat_eq_append]⟩
    have hu := hus u (by simp)
    rw [spotA_uniq (xs := vs) (a := u) (c := z) (ys := []) (by rw [e]; simp) hp (Rat.le_of_lt hu) Rat.le_refl, (spotC_at (by grind)).2]
  have e4 : inner (a :: cs) f z.m ++ [z] = (a :: cs).filter (fun c => decide (f < c.m)) := by
    rw [e]
    unfold inner
    rw [List.filter_append, List.filter_append, List.filter_cons_of_neg (by simp), List.filter_cons_of_pos (by simpa using h2), List.filter_nil, List.append_nil]
    congr 1
    exact List.filter_congr fun c hc => by rw [decide_eq_true (hus c hc), Bool.and_true]
  have e5 := filter_behind hp1 g1 g2
  refine ⟨xs, p, s, ys, e1, g1, g2, ?_, ?_, ?_⟩
  · unfold partL
    rw [e2, e3, e4, e1, e5]
  · rw [← e5, ← e1, List.mem_filter]
    exact ⟨List.mem_of_getLast? hz, by simpa using h2⟩
  · intro c hc
    have : c ∈ a :: cs := by rw [e1]; rcases List.mem_cons.mp hc with rfl | hc <;> simp [*]
    rw [e] at this
    rcases List.mem_append.mp this with h | h
    · exact Rat.le_of_lt (hus c h)
    · rw [List.mem_singleton.mp h]; exact Rat.le_refl
theorem part_again {a z : Cn} {cs xs ys : List Cn} {p s : Cn} {f e : Rat} (hp : (a :: cs).Pairwise (fun a b => a.m < b.m)) (e1 : a :: cs = xs ++ p :: s :: ys) (h1 : a.m ≤ f) (g1 : p.m ≤ f) (g2 : f < s.m) (hz : z ∈ s :: ys) :
    partD (spotC p s f) z (spotC p s f :: s :: ys) a.m e = if f < rmin e z.m then .tuple ((partL (a :: cs) f (rmin e z.m)).map C) else .none := by
  have hp1 := hp
  rw [e1] at hp1
  have e2 : rmax a.m f = f := by unfold rmax; split <;> grind
  unfold partD
  rw [show (spotC p s f).m = f from rfl, e2]
  by_cases h : f < rmin e z.m
  · rw [if_pos h, if_pos h]
    have hl : rmin e z.m ≤ z.m := rmin_le.1
    have r1 := rest_spot (m := f) hp1 g1 g2 Rat.le_refl ⟨s, by simp, Rat.le_of_lt g2⟩
    have r2 := rest_spot (m := rmin e z.m) hp1 g1 g2 (Rat.le_of_lt h) ⟨z, hz, hl⟩
    have r3 : inner (spotC p s f :: s :: ys) f (rmin e z.m) = inner (xs ++ p :: s :: ys) f (rmin e z.m) := by
      unfold inner
      rw [List.filter_cons_of_neg (by simp [spotC]), List.filter_append, List.filter_cons_of_neg (a := p) (by simp only [Bool.and_eq_true, decide_eq_true_eq]; exact fun h => Rat.not_lt.mpr g1 h.1), (List.filter_eq_nil_iff (l := xs)).mpr (fun x hx => ?_), List.nil_append]
      have := (List.pairwise_append.mp hp1).2.2 x hx p (by simp)
      simp only [Bool.and_eq_true, decide_eq_true_eq]
      exact fun h => by have := h.1; grind
    unfold partL
    rw [r1, r2, r3, e1]
  · rw [if_neg h, if_neg h]
theorem part_all {a z : Cn} {cs : List Cn} (hp : (a :: cs).Pairwise (fun a b => a.m < b.m)) (hz : (a :: cs).getLast? = some z) (haz : a.m < z.m) : partD a z (a :: cs) a.m z.m = .tuple ((a :: cs).map C) := by
  have e1 : rmax a.m a.m = a.m := by unfold rmax; split <;> rfl
  have e2 : rmin z.m z.m = z.m := by unfold rmin; split <;> rfl
  unfold partD
  rw [e1, e2, if_pos haz]
  obtain ⟨xs, p, s, ys, e, g1, g2, e3, _⟩ := part_rest hp hz Rat.le_refl haz
  rw [e3]
  cases xs with
  | nil =>
    simp only [List.nil_append, List.cons.injEq] at e
    obtain ⟨rfl, rfl⟩ := e
    rw [(spotC_at (by grind)).1]
  | cons x xs =>
    simp only [List.cons_append, List.cons.injEq] at e
    obtain ⟨rfl, e⟩ := e
    have := (List.pairwise_cons.mp hp).1 p (by rw [e]; simp)
    grind

/-- a machine's way with its bounds -/
structure Fl where
  cs : List Cn
  u : Rat
  v : Rat
  w : Rat
structure Fok (N : Nat) (f : Fl) : Prop where
  c : ∀ c ∈ f.cs, Cz N c
  p : f.cs.Pairwise (fun a b => a.m < b.m)
  n : 2 ≤ f.cs.length
  u : Sz N f.u
  v : Sz N f.v
  w : Sz N f.w
def FD (l : Bool) (f : Fl) : PyData := bif l then .list [.list (f.cs.map CL), .list [F f.u, F f.v, F f.w]] else .tuple [.tuple (f.cs.map C), .tuple [F f.u, F f.v, F f.w]]
def AD (l : Bool) (p q : Rat) : PyData := bif l then .list [F p, F q] else .tuple [F p, F q]
def thereB (cs : List Cn) (m : Rat) : Bool := match cs.head?, cs.getLast? with
  | some a, some z => !decide (m < a.m) && decide (m < z.m)
  | _, _ => false
def nearB (x y r : Rat) : Bool := decide (x - y < r) && decide (0 - (x - y) < r)
def near3 (a c : Cn) (r r2 : Rat) : Bool := nearB a.x c.x r && (nearB a.y c.y r && nearB a.z c.z r2)
def meetB (f g : Fl) (p q s t : Rat) : Bool :=
  thereB f.cs s && (thereB g.cs t && (!decide (s + f.w < t) && (!decide (t + g.w < s) && near3 (spotA f.cs s) (spotA g.cs t) (p + (f.u + g.u)) (q + (f.v + g.v)))))
theorem there_of {cs : List Cn} {m : Rat} {a z : Cn} {t : List Cn} (e : cs = a :: t) (ez : cs.getLast? = some z) : thereB cs m = (!decide (m < a.m) && decide (m < z.m)) := by
  unfold thereB
  rw [ez, e]
  rfl
theorem spot_there {cs : List Cn} {m : Rat} (hp : cs.Pairwise (fun a b => a.m < b.m)) (h2 : 2 ≤ cs.length) (h : thereB cs m = true) : spotD cs m = spT (spotA cs m) := by
  obtain ⟨a, z, t, e, ez, ha, hz, hlt, _, _⟩ := ends_of hp h2
  rw [there_of e ez] at h
  simp only [Bool.and_eq_true, Bool.not_eq_true', decide_eq_false_iff_not, decide_eq_true_eq] at h
  subst e
  refine spotD_in hp (Rat.not_lt.mp h.1) ⟨z, ?_, Rat.le_of_lt h.2⟩
  rcases List.mem_cons.mp hz with rfl | hz
  · exact absurd hlt (by grind)
  · exact hz
theorem spot_sz {cs : List Cn} {m : Rat} {N M : Nat} (hcs : ∀ c ∈ cs, Cz N c) (hp : cs.Pairwise (fun a b => a.m < b.m)) (hm : Sz M m) : Sz (M + N + 1 + (N + N + 1) + (N + N + 1) + N + 1) (spotA cs m).x ∧ Sz (M + N + 1 + (N + N + 1) + (N + N + 1) + N + 1) (spotA cs m).y ∧ Sz (M + N + 1 + (N + N + 1) + (N + N + 1) + N + 1) (spotA cs m).z := by
  have z0 : ∀ n, Sz n 0 ∨ n = 0 := fun n => by
    rcases Nat.eq_zero_or_pos n with e | h
    · exact .inr e
    · exact .inl ⟨by show 0 < _; exact Nat.two_pow_pos _, Nat.one_lt_two_pow (by omega)⟩
  have z1 : Sz (M + N + 1 + (N + N + 1) + (N + N + 1) + N + 1) 0 := (z0 _).resolve_right (by omega)
  induction cs with
  | nil => exact ⟨z1, z1, z1⟩
  | cons a cs ih =>
    cases cs with
    | nil => exact ⟨z1, z1, z1⟩
    | cons c cs =>
      rw [spotA]
      split
      · have ha := hcs a (by simp)
        have hc := hcs c (by simp)
        have hac := (List.pairwise_cons.mp hp).1 c (by simp)
        have ss := share_sz ha hc hm (show c.m - a.m ≠ 0 by grind)
        have f : ∀ {p q : Rat}, Sz N p → Sz N q → Sz (M + N + 1 + (N + N + 1) + (N + N + 1) + N + 1) (p + shareR a c m * (q - p)) := fun hp hq => (sz_add hp (sz_mul ss (sz_sub hq hp))).mono (by omega)
        exact ⟨f ha.2.1 hc.2.1, f ha.2.2.1 hc.2.2.1, f ha.2.2.2 hc.2.2.2⟩
      · exact ih (fun c hc => hcs c (List.mem_cons_of_mem _ hc)) (List.pairwise_cons.mp hp).2

/-- a half-plane of two own moments: a s + b t + c -/
structure Hp where
  a : Rat
  b : Rat
  c : Rat
abbrev Pt := Rat × Rat
def Hp.wt (l : Hp) (p : Pt) : Rat := l.a * p.1 + l.b * p.2 + l.c
def onW (p q : Pt) (lo hi : Rat) : Pt := (p.1 + lo / (lo - hi) * (q.1 - p.1), p.2 + lo / (lo - hi) * (q.2 - p.2))
def crossB (u v : Rat) : Bool := (decide (0 < u) && decide (v < 0)) || (decide (u < 0) && decide (0 < v))
/-- what a turn of a cut puts in -/
def cut1 (l : Hp) (p q : Pt) : List Pt := (if crossB (l.wt p) (l.wt q) = true then [onW p q (l.wt p) (l.wt q)] else []) ++ (if l.wt q < 0 then [] else [q])
def cutG (l : Hp) : Pt → List Pt → List Pt
  | _, [] => []
  | p, q :: t => cut1 l p q ++ cutG l q t
def cutP (P : List Pt) (l : Hp) : List Pt := match P.getLast? with
  | none => []
  | some p => cutG l p P
def insG (l : Hp) : Pt → List Pt → List Pt
  | _, [] => []
  | p, q :: t => (if crossB (l.wt p) (l.wt q) = true then [onW p q (l.wt p) (l.wt q)] else []) ++ (q :: insG l q t)
theorem onW_wt {g : Hp} {p q : Pt} {lo hi : Rat} : g.wt (onW p q lo hi) = g.wt p + lo / (lo - hi) * (g.wt q - g.wt p) := by
  unfold Hp.wt onW
  generalize lo / (lo - hi) = s
  grind
theorem cross_or {u v : Rat} (h : crossB u v = true) : (0 < u ∧ v < 0) ∨ (u < 0 ∧ 0 < v) := by
  unfold crossB at h
  simpa using h
theorem cross_share {u v : Rat} (h : crossB u v = true) : 0 < u / (u - v) ∧ u / (u - v) < 1 ∧ u + u / (u - v) * (v - u) = 0 := by
  have e : u - v ≠ 0 := by rcases cross_or h with h | h <;> grind
  have e1 := Rat.div_mul_cancel (a := u) e
  rcases cross_or h with ⟨h1, h2⟩ | ⟨h1, h2⟩
  · have d : 0 < u - v := by grind
    generalize u / (u - v) = s at e1 ⊢
    refine ⟨?_, ?_, by grind⟩
    · refine Decidable.byContradiction fun hn => ?_
      have := Rat.mul_nonneg (show 0 ≤ 0 - s by grind) (Rat.le_of_lt d)
      grind
    · refine Decidable.byContradiction fun hn => ?_
      have := Rat.mul_nonneg (show 0 ≤ s - 1 by grind) (Rat.le_of_lt d)
      grind
  · have d : 0 < v - u := by grind
    generalize u / (u - v) = s at e1 ⊢
    refine ⟨?_, ?_, by grind⟩
    · refine Decidable.byContradiction fun hn => ?_
      have := Rat.mul_nonneg (show 0 ≤ 0 - s by grind) (Rat.le_of_lt d)
      grind
    · refine Decidable.byContradiction fun hn => ?_
      have := Rat.mul_nonneg (show 0 ≤ s - 1 by grind) (Rat.le_of_lt d)
      grind
/-! ### signs in a row -/
inductive Sg | m | z | p
  deriving DecidableEq
def sg (q : Rat) : Sg := if q < 0 then .m else if 0 < q then .p else .z
def Sg.opp : Sg → Sg
  | .m => .p
  | .z => .z
  | .p => .m
def sc : Sg → List Sg → Nat
  | _, [] => 0
  | s, .z :: t => sc s t
  | .m, .p :: t => 1 + sc .p t
  | .p, .m :: t => 1 + sc .m t
  | .z, .p :: t => sc .p t
  | .z, .m :: t => sc .m t
  | .p, .p :: t => sc .p t
  | .m, .m :: t => sc .m t
theorem sc_from : ∀ {L : List Sg} {s x : Sg}, x ≠ .z → sc s L ≤ (if s = x.opp then 1 else 0) + sc x L
  | [], s, x, h => by cases s <;> cases x <;> simp [sc]
  | y :: t, s, x, h => by
    cases y with
    | z =>
      have := sc_from (L := t) (s := s) h
      simpa only [sc] using this
    | m => cases s <;> cases x <;> simp_all [sc, Sg.opp] <;> omega
    | p => cases s <;> cases x <;> simp_all [sc, Sg.opp] <;> omega
theorem sc_sub {L K : List Sg} (h : List.Sublist L K) : ∀ s, sc s L ≤ sc s K := by
  induction h with
  | slnil => intro s; exact Nat.le_refl _
  | cons a _ ih =>
    rename_i l1 l2 _
    intro s
    cases a with
    | z => simpa only [sc] using ih s
    | m =>
      have h1 := sc_from (L := l1) (s := s) (x := .m) (by simp)
      have h2 := ih .m
      cases s <;> simp [sc, Sg.opp] at * <;> omega
    | p =>
      have h1 := sc_from (L := l1) (s := s) (x := .p) (by simp)
      have h2 := ih .p
      cases s <;> simp [sc, Sg.opp] at * <;> omega
  | cons_cons a _ ih =>
    intro s
    cases a with
    | z => simpa only [sc] using ih s
    | m => have := ih .m; cases s <;> simp [sc] <;> omega
    | p => have := ih .p; cases s <;> simp [sc] <;> omega
def fin : Sg → List Sg → Sg
  | s, [] => s
  | s, .z :: t => fin s t
  | _, .m :: t => fin .m t
  | _, .p :: t => fin .p t
theorem fin_end : ∀ {L : List Sg} {s y : Sg}, y ≠ .z → fin s (L ++ [y]) = y
  | [], s, y, h => by cases y <;> simp_all [fin]
  | x :: t, s, y, h => by cases x <;> simp only [List.cons_append, fin] <;> exact fin_end h
def par1 (a b : Sg) : Nat := if a = b then 0 else 1
theorem sc_par : ∀ {L : List Sg} {s : Sg}, s ≠ .z → sc s L % 2 = par1 (fin s L) s
  | [], s, h => by simp [sc, fin, par1]
  | x :: t, s, h => by
    have nz : ∀ {u : Sg} {t : List Sg}, u ≠ .z → fin u t ≠ .z := fun {u t} => by
      induction t generalizing u with
      | nil => exact fun h => h
      | cons x t ih => intro h; cases x <;> simp only [fin] <;> first | exact ih h | exact ih (by simp)
    cases x with
    | z => exact sc_par (L := t) h
    | m =>
      have g := sc_par (L := t) (s := .m) (by simp)
      have n := nz (u := .m) (t := t) (by simp)
      cases s with
      | z => exact absurd rfl h
      | m => exact g
      | p =>
        show (1 + sc .m t) % 2 = par1 (fin .m t) .p
        generalize fin Sg.m t = f at *
        cases f <;> simp_all [par1] <;> omega
    | p =>
      have g := sc_par (L := t) (s := .p) (by simp)
      have n := nz (u := .p) (t := t) (by simp)
      cases s with
      | z => exact absurd rfl h
      | p => exact g
      | m =>
        show (1 + sc .p t) % 2 = par1 (fin .p t) .m
        generalize fin Sg.p t = f at *
        cases f <;> simp_all [par1] <;> omega
/-- put between two neighbours -/
def btw (u x v : Sg) : Prop := x = u ∨ x = v ∨ u = v.opp
theorem sc_mid {w u x v : Sg} {t : List Sg} (h1 : u = v → x = u) (h2 : u = .z → x = v) (h3 : v = .z → x = u) : sc w (u :: x :: v :: t) = sc w (u :: v :: t) := by
  cases w <;> cases u <;> cases x <;> cases v <;> simp_all [sc]
theorem sg_mid {u v s : Rat} (h0 : 0 < s) (h1 : s < 1) : (sg u = sg v → sg (u + s * (v - u)) = sg u) ∧ (sg u = .z → sg (u + s * (v - u)) = sg v) ∧ (sg v = .z → sg (u + s * (v - u)) = sg u) := by
  have e : u + s * (v - u) = (1 - s) * u + s * v := by grind
  rw [e]
  have k : 0 < 1 - s := by grind
  have p1 : ∀ {a}, 0 < a → 0 < s * a := fun h => Rat.mul_pos h0 h
  have p2 : ∀ {a}, 0 < a → 0 < (1 - s) * a := fun h => Rat.mul_pos k h
  have n1 : ∀ {a}, a < 0 → s * a < 0 := fun {a} h => by have := p1 (show 0 < 0 - a by grind); grind
  have n2 : ∀ {a}, a < 0 → (1 - s) * a < 0 := fun {a} h => by have := p2 (show 0 < 0 - a by grind); grind
  have z1 : s * 0 = 0 := Rat.mul_zero _
  have z2 : (1 - s) * 0 = 0 := Rat.mul_zero _
  have tri : ∀ a : Rat, a < 0 ∨ a = 0 ∨ 0 < a := fun a => by grind
  have sgm : ∀ {a : Rat}, a < 0 → sg a = .m := fun h => by unfold sg; rw [if_pos h]
  have sgp : ∀ {a : Rat}, 0 < a → sg a = .p := fun h => by unfold sg; rw [if_neg (by grind), if_pos h]
  have sgz : sg 0 = .z := by unfold sg; rw [if_neg (by grind), if_neg (by grind)]
  rcases tri u with hu | rfl | hu <;> rcases tri v with hv | rfl | hv
  · have := n2 hu; have := n1 hv
    rw [sgm hu, sgm hv, sgm (by grind)]; simp
  · have := n2 hu
    rw [z1, Rat.add_zero, sgm hu, sgz, sgm this]; simp
  · rw [sgm hu, sgp hv]; simp
  · have := n1 hv
    rw [z2, Rat.zero_add, sgm hv, sgz, sgm this]; simp
  · rw [z1, z2, Rat.zero_add, sgz]; simp
  · have := p1 hv
    rw [z2, Rat.zero_add, sgp hv, sgz, sgp this]; simp
  · rw [sgm hv, sgp hu]; simp
  · have := p2 hu
    rw [z1, Rat.add_zero, sgp hu, sgz, sgp this]; simp
  · have := p2 hu; have := p1 hv
    rw [sgp hu, sgp hv, sgp (by grind)]; simp
theorem sg_m {q : Rat} : sg q = .m ↔ q < 0 := by unfold sg; split <;> (try split) <;> simp_all
theorem sg_p {q : Rat} : sg q = .p ↔ 0 < q := by
  unfold sg
  split
  · simp; grind
  · split <;> simp_all
theorem sg_z {q : Rat} : sg q = .z ↔ q = 0 := by
  unfold sg
  split
  · simp; grind
  · split
    · simp; grind
    · simp; grind
/-- corners in a row go round: no number of theirs rises and falls twice -/
def Uni (P : List Pt) : Prop := ∀ g : Hp, sc .z (P.map fun p => sg (g.wt p)) ≤ 2
theorem uni_closed {P : List Pt} {p : Pt} (h : Uni P) (hp : P.getLast? = some p) (g : Hp) : sc .z ((p :: P).map fun p => sg (g.wt p)) ≤ 2 := by
  obtain ⟨A, rfl⟩ := List.getLast?_eq_some_iff.mp hp
  have h1 := h g
  rw [List.map_cons]
  by_cases hz : sg (g.wt p) = .z
  · rw [hz]; exact h1
  · have e : sc .z (sg (g.wt p) :: (A ++ [p]).map fun p => sg (g.wt p)) = sc (sg (g.wt p)) ((A ++ [p]).map fun p => sg (g.wt p)) := by
      cases hh : sg (g.wt p) <;> simp_all [sc]
    rw [e]
    have h2 := sc_par (L := (A ++ [p]).map fun p => sg (g.wt p)) hz
    rw [List.map_append, List.map_cons, List.map_nil, fin_end hz, show par1 (sg (g.wt p)) (sg (g.wt p)) = 0 from if_pos rfl] at h2
    rw [List.map_append, List.map_cons, List.map_nil] at h1 ⊢
    have h3 : sc (sg (g.wt p)) (A.map (fun p => sg (g.wt p)) ++ [sg (g.wt p)]) ≤ 1 + sc .z (A.map (fun p => sg (g.wt p)) ++ [sg (g.wt p)]) := by
      generalize A.map (fun p => sg (g.wt p)) ++ [sg (g.wt p)] = L
      generalize sg (g.wt p) = s at *
      clear h1 h2 e
      induction L generalizing s with
      | nil => cases s <;> simp [sc]
      | cons x t ih => cases x with
        | z => simpa only [sc] using ih s hz
        | m => cases s <;> simp_all [sc]
        | p => cases s <;> simp_all [sc]
    omega
theorem sc_ins {l g : Hp} : ∀ {t : List Pt} {p : Pt} {w : Sg}, sc w ((p :: insG l p t).map fun p => sg (g.wt p)) = sc w ((p :: t).map fun p => sg (g.wt p))
  | [], p, w => rfl
  | q :: t, p, w => by
    have tail : ∀ {s : Sg}, sc w (s :: (q :: insG l q t).map fun p => sg (g.wt p)) = sc w (s :: (q :: t).map fun p => sg (g.wt p)) := fun {s} => by
      cases s <;> cases w <;> simp only [sc, sc_ins (t := t) (p := q)]
    unfold insG
    split
    · rename_i hc
      obtain ⟨s0, s1, _⟩ := cross_share hc
      have m := sg_mid (u := g.wt p) (v := g.wt q) s0 s1
      rw [← onW_wt] at m
      simp only [List.singleton_append, List.map_cons]
      rw [sc_mid m.1 m.2.1 m.2.2]
      have := tail (s := sg (g.wt p))
      simpa only [List.map_cons] using this
    · simp only [List.nil_append, List.map_cons]
      have := tail (s := sg (g.wt p))
      simpa only [List.map_cons] using this
theorem cutG_sub {l : Hp} : ∀ {t : List Pt} {p : Pt}, (cutG l p t).Sublist (insG l p t)
  | [], p => .slnil
  | q :: t, p => by
    unfold cutG insG cut1
    rw [List.append_assoc]
    refine List.Sublist.append (List.Sublist.refl _) ?_
    split
    · exact (cutG_sub (t := t)).cons _
    · exact (cutG_sub (t := t)).cons_cons _
theorem ins_uni {P : List Pt} {p : Pt} (l : Hp) (h : Uni P) (hp : P.getLast? = some p) : Uni (insG l p P) := fun g => by
  refine Nat.le_trans (sc_sub ?_ _) (Nat.le_trans (Nat.le_of_eq (sc_ins (l := l) (t := P) (p := p))) (uni_closed h hp g))
  rw [List.map_cons]
  exact List.sublist_cons_self ..
theorem cut_uni {P : List Pt} (l : Hp) (h : Uni P) : Uni (cutP P l) := by
  unfold cutP
  cases hp : P.getLast? with
  | none => exact fun g => Nat.zero_le _
  | some p => exact fun g => Nat.le_trans (sc_sub (cutG_sub.map _) _) (ins_uni l h hp g)
theorem mem_cutG {l : Hp} {x : Pt} : ∀ {t : List Pt} {p : Pt}, x ∈ cutG l p t ↔ x ∈ insG l p t ∧ ¬ l.wt x < 0
  | [], p => by simp [cutG, insG]
  | q :: t, p => by
    unfold cutG insG cut1
    simp only [List.mem_append, List.mem_cons, mem_cutG (t := t) (p := q)]
    have hc : x ∈ (if crossB (l.wt p) (l.wt q) = true then [onW p q (l.wt p) (l.wt q)] else []) → ¬ l.wt x < 0 := by
      split
      · rename_i hc
        intro hx
        rw [List.mem_singleton.mp hx, onW_wt, (cross_share hc).2.2]
        grind
      · intro hx; cases hx
    constructor
    · rintro ((h | h) | ⟨h, h2⟩)
      · exact ⟨.inl h, hc h⟩
      · split at h
        · cases h
        · rw [List.mem_singleton.mp h]; exact ⟨.inr (.inl rfl), by assumption⟩
      · exact ⟨.inr (.inr h), h2⟩
    · rintro ⟨h | rfl | h, h2⟩
      · exact .inl (.inl h)
      · exact .inl (.inr (by rw [if_neg h2]; simp))
      · exact .inr ⟨h, h2⟩
theorem sub_ins {l : Hp} : ∀ {t : List Pt} {p : Pt}, t.Sublist (insG l p t)
  | [], p => .slnil
  | q :: t, p => by
    unfold insG
    exact List.Sublist.trans ((sub_ins (t := t)).cons_cons _) (List.sublist_append_right ..)

theorem Sg.opp_ne {a b : Sg} (h : b = a.opp) (ha : a ≠ .z) : b ≠ .z := by subst h; cases a <;> simp_all [Sg.opp]
theorem Sg.of_opp {a b : Sg} (h : b = a.opp) (ha : b ≠ .z) : a ≠ .z := by subst h; cases a <;> simp_all [Sg.opp]
theorem Sg.eq_of {a b : Sg} (ha : a ≠ .z) (hb : b ≠ .z) (h : b ≠ a.opp) : b = a := by cases a <;> cases b <;> simp_all [Sg.opp]
theorem Sg.opp_self {a : Sg} (h : a = a.opp) : a = .z := by cases a <;> simp_all [Sg.opp]
/-- no two neighbours on two sides of a line -/
def NoOp (l : Hp) : Pt → List Pt → Prop
  | _, [] => True
  | p, q :: t => ¬ (sg (l.wt p) ≠ .z ∧ sg (l.wt q) = (sg (l.wt p)).opp) ∧ NoOp l q t
theorem noOp_ins {l : Hp} : ∀ {t : List Pt} {p : Pt}, NoOp l p (insG l p t)
  | [], p => trivial
  | q :: t, p => by
    have ih := noOp_ins (l := l) (t := t) (p := q)
    unfold insG
    split
    · rename_i hc
      have hz : sg (l.wt (onW p q (l.wt p) (l.wt q))) = .z := by rw [onW_wt, (cross_share hc).2.2]; exact sg_z.mpr rfl
      refine ⟨?_, ?_, ih⟩
      · rw [hz]
        rintro ⟨h1, h2⟩
        exact Sg.opp_ne h2 h1 rfl
      · rw [hz]
        exact fun h => h.1 rfl
    · rename_i hc
      refine ⟨?_, ih⟩
      rintro ⟨h1, h2⟩
      refine hc ?_
      unfold crossB
      cases hh : sg (l.wt p) with
      | z => exact absurd hh h1
      | m =>
        rw [hh] at h2
        have a := sg_m.mp hh
        have b := sg_p.mp h2
        simp [a, b]
      | p =>
        rw [hh] at h2
        have a := sg_p.mp hh
        have b := sg_m.mp h2
        simp [a, b]
theorem noOp_tail {l : Hp} : ∀ {A : List Pt} {p x : Pt} {R : List Pt}, NoOp l p (A ++ x :: R) → NoOp l x R
  | [], _, _, _, h => h.2
  | _ :: _, _, _, _, h => noOp_tail h.2
theorem noOp_head {l : Hp} : ∀ {A : List Pt} {p : Pt} {R : List Pt}, NoOp l p (A ++ R) → NoOp l p A
  | [], _, _, _ => trivial
  | _ :: _, _, _, h => ⟨h.1, noOp_head h.2⟩
/-- from one side to the other one there is a corner on the line -/
theorem op_between {l : Hp} : ∀ {L : List Pt} {u v : Pt}, NoOp l u L → sg (l.wt u) ≠ .z → v ∈ L → sg (l.wt v) = (sg (l.wt u)).opp → ∃ A w B, L = A ++ w :: B ∧ sg (l.wt w) = .z ∧ v ∈ B
  | [], _, _, _, _, h, _ => by cases h
  | q :: t, u, v, hn, hu, hv, ho => by
    by_cases hq : sg (l.wt q) = .z
    · refine ⟨[], q, t, rfl, hq, ?_⟩
      rcases List.mem_cons.mp hv with rfl | h
      · exact absurd hq (Sg.opp_ne ho hu)
      · exact h
    · have e : sg (l.wt q) = sg (l.wt u) := by
        exact Sg.eq_of hu hq fun h => hn.1 ⟨hu, h⟩
      have hv' : v ∈ t := by
        rcases List.mem_cons.mp hv with rfl | h
        · rw [e] at ho
          exact absurd (Sg.opp_self ho) hu
        · exact h
      obtain ⟨A, w, B, h1, h2, h3⟩ := op_between hn.2 hq hv' (by rw [e]; exact ho)
      exact ⟨q :: A, w, B, by rw [h1]; rfl, h2, h3⟩
theorem opp_opp (s : Sg) : s.opp.opp = s := by cases s <;> rfl
theorem sub_at {α : Type} {A B : List α} {x : α} {K : List α} (h : List.Sublist K B) : List.Sublist (x :: K) (A ++ x :: B) := (h.cons_cons x).trans (List.sublist_append_right ..)
theorem sub_mem {α : Type} {x : α} {B : List α} (h : x ∈ B) : List.Sublist [x] B := List.singleton_sublist.mpr h
/-- two corners on two sides: the line is met between them both ways round -/
theorem zig_ex {l : Hp} {P : List Pt} {p0 x y : Pt} {A R : List Pt} (hl : P.getLast? = some p0) (hn : NoOp l p0 P) (e : P = A ++ x :: R) (hy : y ∈ R) (hx : sg (l.wt x) ≠ .z) (ho : sg (l.wt y) = (sg (l.wt x)).opp) :
    ∃ z w, sg (l.wt z) = .z ∧ sg (l.wt w) = .z ∧ (List.Sublist [x, z, y, w] P ∨ List.Sublist [w, x, z, y] P) := by
  have hn0 := hn
  rw [e] at hn
  have hnx := noOp_tail hn
  obtain ⟨R1, z, R2, eR, hz, hyR⟩ := op_between hnx hx hy ho
  obtain ⟨S1, C, eC⟩ := List.append_of_mem hyR
  have hyz : sg (l.wt y) ≠ .z := Sg.opp_ne ho hx
  have eP : P = A ++ x :: (R1 ++ z :: (S1 ++ y :: C)) := by rw [e, eR, eC]
  have sub3 : ∀ {w}, w ∈ C → List.Sublist [x, z, y, w] P := fun h => by
    rw [eP]
    exact sub_at (sub_at (sub_at (sub_mem h)))
  have sub4 : ∀ {w}, w ∈ A → List.Sublist [w, x, z, y] P := fun {w} h => by
    rw [eP]
    obtain ⟨A1, A2, rfl⟩ := List.append_of_mem h
    rw [List.append_assoc, List.cons_append]
    refine sub_at ?_
    exact sub_at (sub_at (sub_at (List.nil_sublist _)))
  have hnC : NoOp l y C := by
    have h1 := hn0
    rw [show P = (A ++ x :: (R1 ++ z :: S1)) ++ y :: C by rw [eP]; simp] at h1
    exact noOp_tail h1
  have hlast : p0 = y ∧ C = [] ∨ p0 ∈ C := by
    rw [show P = (A ++ x :: (R1 ++ z :: S1)) ++ y :: C by rw [eP]; simp] at hl
    cases C with
    | nil =>
      left
      rw [List.getLast?_append] at hl
      exact ⟨(Option.some.inj hl).symm, rfl⟩
    | cons c C =>
      right
      rw [List.getLast?_append, List.getLast?_cons_cons] at hl
      cases hg : (c :: C).getLast? with
      | none => rw [hg] at hl; simp at hg
      | some d =>
        rw [hg] at hl
        simp only [Option.or] at hl
        cases hl
        exact List.mem_of_getLast? hg
  have viaA : sg (l.wt p0) = sg (l.wt y) → ∃ w ∈ A, sg (l.wt w) = .z := fun h0 => by
    have hA : NoOp l p0 (A ++ [x]) := by
      have h1 := hn0
      rw [show P = (A ++ [x]) ++ R by rw [e]; simp] at h1
      exact noOp_head h1
    obtain ⟨A1, w, B, h1, h2, h3⟩ := op_between (v := x) hA (by rw [h0]; exact hyz) (by simp) (by rw [h0, ho, opp_opp])
    refine ⟨w, ?_, h2⟩
    have hw : w ∈ A ++ [x] := by rw [h1]; simp
    rcases List.mem_append.mp hw with hw | hw
    · exact hw
    · rw [List.mem_singleton.mp hw] at h2; exact absurd h2 hx
  rcases hlast with ⟨h, _⟩ | h
  · obtain ⟨w, hw, hwz⟩ := viaA (by rw [h])
    exact ⟨z, w, hz, hwz, .inr (sub4 hw)⟩
  · by_cases h0 : sg (l.wt p0) = .z
    · exact ⟨z, p0, hz, h0, .inl (sub3 h)⟩
    by_cases h1 : sg (l.wt p0) = (sg (l.wt y)).opp
    · obtain ⟨C1, w, C2, h2, h3, _⟩ := op_between hnC hyz h h1
      exact ⟨z, w, hz, h3, .inl (sub3 (by rw [h2]; simp))⟩
    · obtain ⟨w, hw, hwz⟩ := viaA (Sg.eq_of hyz h0 h1)
      exact ⟨z, w, hz, hwz, .inr (sub4 hw)⟩
/-- among corners is one that is as far as a point, whatever is looked at -/
def Supp (P : List Pt) (q : Pt) : Prop := ∀ f : Hp, ∃ p ∈ P, f.wt q ≤ f.wt p
theorem some_max {α : Type} (f : α → Rat) : ∀ L : List α, (L = [] ∨ ∃ a ∈ L, ∀ x ∈ L, f x ≤ f a)
  | [] => .inl rfl
  | a :: L => by
    right
    rcases some_max f L with rfl | ⟨b, hb, h⟩
    · exact ⟨a, by simp, fun x hx => by rw [List.mem_singleton.mp hx]; exact Rat.le_refl⟩
    · by_cases hab : f b ≤ f a
      · refine ⟨a, by simp, fun x hx => ?_⟩
        rcases List.mem_cons.mp hx with rfl | hx
        · exact Rat.le_refl
        · exact Rat.le_trans (h x hx) hab
      · refine ⟨b, List.mem_cons_of_mem _ hb, fun x hx => ?_⟩
        rcases List.mem_cons.mp hx with rfl | hx
        · exact Rat.le_of_lt (Rat.not_le.mp hab)
        · exact h x hx
/-- a number just above some, below others -/
theorem room_for {α : Type} (f : α → Rat) (L : List α) {b : Rat} (h : ∀ x ∈ L, b < f x) : ∃ c, b < c ∧ ∀ x ∈ L, c < f x := by
  rcases some_max (fun x => 0 - f x) L with rfl | ⟨a, ha, hm⟩
  · exact ⟨b + 1, by grind, fun x hx => by cases hx⟩
  · have := h a ha
    refine ⟨(b + f a) / 2, by grind, fun x hx => ?_⟩
    have := hm x hx
    grind
def mixH (f l : Hp) (k c : Rat) : Hp := ⟨f.a + k * l.a, f.b + k * l.b, f.c + k * l.c + c⟩
theorem mix_wt {f l : Hp} {k c : Rat} {p : Pt} : (mixH f l k c).wt p = f.wt p + k * l.wt p + c := by
  unfold mixH Hp.wt
  grind
theorem cut_supp {P : List Pt} {l : Hp} {q : Pt} (hu : Uni P) (hs : Supp P q) (hq : 0 ≤ l.wt q) : Supp (cutP P l) q := by
  intro f
  refine Decidable.byContradiction fun hno => ?_
  obtain ⟨x0, hx0, _⟩ := hs f
  cases hp : P.getLast? with
  | none =>
    rw [List.getLast?_eq_none_iff] at hp
    subst hp
    cases hx0
  | some p0 =>
    have hcut : cutP P l = cutG l p0 P := by unfold cutP; rw [hp]
    have hlow : ∀ c ∈ insG l p0 P, 0 ≤ l.wt c → f.wt c < f.wt q := fun c hc h0 => by
      refine Decidable.byContradiction fun hn => hno ⟨c, ?_, by grind⟩
      rw [hcut, mem_cutG]
      exact ⟨hc, by grind⟩
    have hsub := sub_ins (l := l) (t := P) (p := p0)
    have hlowP : ∀ c ∈ P, 0 ≤ l.wt c → f.wt c < f.wt q := fun c hc => hlow c (hsub.subset hc)
    -- how much of the line may be added
    obtain ⟨B, hB0, hB1, hB2⟩ : ∃ B : Rat, 0 ≤ B ∧ (∀ x ∈ P, l.wt x < 0 → f.wt x - f.wt q + B * l.wt x ≤ 0) ∧ (B = 0 ∨ ∃ y ∈ P, l.wt y < 0 ∧ f.wt y - f.wt q + B * l.wt y = 0) := by
      have key : ∀ x ∈ P.filter (fun x => decide (l.wt x < 0)), x ∈ P ∧ l.wt x < 0 := fun x hx => by simpa using hx
      have dv : ∀ x : Pt, l.wt x < 0 → f.wt x - f.wt q + (f.wt x - f.wt q) / (0 - l.wt x) * l.wt x = 0 := fun x hx => by
        have := Rat.div_mul_cancel (a := f.wt x - f.wt q) (b := 0 - l.wt x) (by grind)
        grind
      have mono : ∀ (x : Pt) (u v : Rat), l.wt x < 0 → u ≤ v → v * l.wt x ≤ u * l.wt x := fun x u v hx huv => by
        have := Rat.mul_nonneg (show 0 ≤ v - u by grind) (show 0 ≤ 0 - l.wt x by grind)
        grind
      rcases some_max (fun x => (f.wt x - f.wt q) / (0 - l.wt x)) (P.filter (fun x => decide (l.wt x < 0))) with h | ⟨a, ha, hm⟩
      · refine ⟨0, Rat.le_refl, fun x hx hx0 => ?_, .inl rfl⟩
        have : x ∈ P.filter (fun x => decide (l.wt x < 0)) := by simp [hx, hx0]
        rw [h] at this
        cases this
      · obtain ⟨ha1, ha2⟩ := key a ha
        have up : ∀ (B : Rat), (f.wt a - f.wt q) / (0 - l.wt a) ≤ B → ∀ x ∈ P, l.wt x < 0 → f.wt x - f.wt q + B * l.wt x ≤ 0 := fun B hB x hx hx0 => by
          have h1 := hm x (by simp [hx, hx0])
          have h2 := mono x _ _ hx0 (Rat.le_trans h1 hB)
          have := dv x hx0
          grind
        by_cases h0 : 0 ≤ (f.wt a - f.wt q) / (0 - l.wt a)
        · exact ⟨_, h0, up _ Rat.le_refl, .inr ⟨a, ha1, ha2, dv a ha2⟩⟩
        · exact ⟨0, Rat.le_refl, up 0 (by grind), .inl rfl⟩
    have bad : ∀ k, 0 ≤ k → (∀ x ∈ P, f.wt x - f.wt q + k * l.wt x < 0) → False := fun k hk h => by
      obtain ⟨x, hx, hle⟩ := hs (mixH f l k (0 - f.wt q))
      rw [mix_wt, mix_wt] at hle
      have := h x hx
      have := Rat.mul_nonneg hk hq
      grind
    have kpos : ∀ (x : Pt) (u v : Rat), 0 < l.wt x → u ≤ v → u * l.wt x ≤ v * l.wt x := fun x u v hx huv => by
      have := Rat.mul_nonneg (show 0 ≤ v - u by grind) (Rat.le_of_lt hx)
      grind
    by_cases hA : ∀ x ∈ P, 0 < l.wt x → f.wt x - f.wt q + B * l.wt x < 0
    · -- a little more
      obtain ⟨k, hk1, hk2⟩ := room_for (fun x => (f.wt q - f.wt x) / l.wt x) (P.filter (fun x => decide (0 < l.wt x))) (b := B) (fun x hx => by
        obtain ⟨h1, h2⟩ : x ∈ P ∧ 0 < l.wt x := by simpa using hx
        have := hA x h1 h2
        rw [Rat.lt_div_iff h2]
        grind)
      refine bad k (by grind) fun x hx => ?_
      rcases show l.wt x < 0 ∨ l.wt x = 0 ∨ 0 < l.wt x by grind with h | h | h
      · have := hB1 x hx h
        have := Rat.mul_pos (show 0 < k - B by grind) (show 0 < 0 - l.wt x by grind)
        grind
      · have := hlowP x hx (by grind)
        rw [h]
        grind
      · have := hk2 x (by simp [hx, h])
        rw [Rat.lt_div_iff h] at this
        grind
    · have : ∃ x ∈ P, 0 < l.wt x ∧ 0 ≤ f.wt x - f.wt q + B * l.wt x := by
        refine Decidable.byContradiction fun hn => hA fun x hx h0 => ?_
        refine Decidable.byContradiction fun h1 => hn ⟨x, hx, h0, by grind⟩
      obtain ⟨x, hx, hx0, hx1⟩ := this
      have hB : B ≠ 0 := fun e => by
        have := hlowP x hx (Rat.le_of_lt hx0)
        rw [e, Rat.zero_mul] at hx1
        grind
      obtain ⟨y, hy, hy0, hy1⟩ := hB2.resolve_left hB
      obtain ⟨e, he0, he1⟩ := room_for (fun z => 0 - (f.wt z - f.wt q)) ((insG l p0 P).filter (fun z => decide (l.wt z = 0))) (b := 0) (fun z hz => by
        obtain ⟨h1, h2⟩ : z ∈ insG l p0 P ∧ l.wt z = 0 := by simpa using hz
        have := hlow z h1 (by grind)
        grind)
      have hH : ∀ z, (mixH f l B (e - f.wt q)).wt z = f.wt z - f.wt q + B * l.wt z + e := fun z => by rw [mix_wt]; grind
      have sx : sg ((mixH f l B (e - f.wt q)).wt x) = .p := sg_p.mpr (by rw [hH]; grind)
      have sy : sg ((mixH f l B (e - f.wt q)).wt y) = .p := sg_p.mpr (by rw [hH]; grind)
      have sz : ∀ z ∈ insG l p0 P, sg (l.wt z) = .z → sg ((mixH f l B (e - f.wt q)).wt z) = .m := fun z hz h0 => by
        have h0 := sg_z.mp h0
        refine sg_m.mpr ?_
        rw [hH, h0]
        have := he1 z (by simp [hz, h0])
        grind
      have hlast : (insG l p0 P).getLast? = some p0 := by
        have gen : ∀ (t : List Pt) (p : Pt), t ≠ [] → (insG l p t).getLast? = t.getLast? := by
          intro t
          induction t with
          | nil => exact fun p h => absurd rfl h
          | cons q t ih =>
            intro p _
            unfold insG
            cases t with
            | nil => simp [insG]
            | cons r t =>
              rw [List.getLast?_append, List.getLast?_cons_cons]
              have h1 := ih q (by simp)
              rw [show (q :: insG l q (r :: t)).getLast? = (insG l q (r :: t)).getLast? by
                cases hh : insG l q (r :: t) with
                | nil =>
                  rw [hh] at h1
                  have h1 := h1.symm
                  rw [List.getLast?_nil, List.getLast?_eq_none_iff] at h1
                  cases h1
                | cons a b => rw [List.getLast?_cons_cons], h1]
              cases hh : (r :: t).getLast? with
              | none => simp at hh
              | some d => rfl
        rw [gen P p0 (by intro h; rw [h] at hp; cases hp), hp]
      have hui := ins_uni l hu hp (mixH f l B (e - f.wt q))
      have fin : ∀ u v : Pt, u ∈ insG l p0 P → v ∈ insG l p0 P → sg ((mixH f l B (e - f.wt q)).wt u) = .p → sg ((mixH f l B (e - f.wt q)).wt v) = .p → ∀ {A R}, insG l p0 P = A ++ u :: R → v ∈ R → sg (l.wt u) ≠ .z → sg (l.wt v) = (sg (l.wt u)).opp → False := by
        intro u v hu' hv' gu gv A R eA hv hu0 hvo
        obtain ⟨z, w, hz, hw, h⟩ := zig_ex hlast noOp_ins eA hv hu0 hvo
        rcases h with h | h
        · have g1 := sz z (h.subset (by simp)) hz
          have g2 := sz w (h.subset (by simp)) hw
          have g3 := sc_sub (h.map fun p => sg ((mixH f l B (e - f.wt q)).wt p)) .z
          simp only [List.map_cons, List.map_nil, gu, gv, g1, g2, sc] at g3
          omega
        · have g1 := sz z (h.subset (by simp)) hz
          have g2 := sz w (h.subset (by simp)) hw
          have g3 := sc_sub (h.map fun p => sg ((mixH f l B (e - f.wt q)).wt p)) .z
          simp only [List.map_cons, List.map_nil, gu, gv, g1, g2, sc] at g3
          omega
      have lx : sg (l.wt x) = .p := sg_p.mpr hx0
      have ly : sg (l.wt y) = .m := sg_m.mpr hy0
      have mx := hsub.subset hx
      have my := hsub.subset hy
      obtain ⟨A, R, eA⟩ := List.append_of_mem mx
      have hyAR : y ∈ A ++ x :: R := by rw [← eA]; exact my
      rcases List.mem_append.mp hyAR with h | h
      · obtain ⟨A1, A2, rfl⟩ := List.append_of_mem h
        exact fin y x my mx sy sx (A := A1) (R := A2 ++ x :: R) (by rw [eA]; simp) (by simp) (by rw [ly]; simp) (by rw [lx, ly]; rfl)
      · rcases List.mem_cons.mp h with h | h
        · rw [h, lx] at ly; cases ly
        · exact fin x y mx my sx sy eA h (by rw [lx]; simp) (by rw [lx, ly]; rfl)

def det2 (l m : Hp) : Rat := l.a * m.b - m.a * l.b
/-- a corner at which two lines cross -/
def Vx (Ls : List Hp) (p : Pt) : Prop := ∃ l ∈ Ls, ∃ m ∈ Ls, det2 l m ≠ 0 ∧ l.wt p = 0 ∧ m.wt p = 0
/-- two corners on one line -/
def Eg (Ls : List Hp) (p q : Pt) : Prop := ∃ l ∈ Ls, ¬ (l.a = 0 ∧ l.b = 0) ∧ l.wt p = 0 ∧ l.wt q = 0
def EgG (Ls : List Hp) : Pt → List Pt → Prop
  | _, [] => True
  | p, q :: t => Eg Ls p q ∧ EgG Ls q t
theorem egG_append {Ls : List Hp} : ∀ {A : List Pt} {p : Pt} {B : List Pt}, EgG Ls p (A ++ B) ↔ EgG Ls p A ∧ EgG Ls (A.getLastD p) B
  | [], p, B => by simp [EgG]
  | a :: A, p, B => by
    have ih := egG_append (Ls := Ls) (A := A) (p := a) (B := B)
    simp only [List.cons_append, EgG, ih, and_assoc]
    cases A with
    | nil => rfl
    | cons b A =>
      have : (b :: A).getLastD a = (a :: b :: A).getLastD p := by simp [List.getLastD]
      rw [this]
theorem not_flat {l : Hp} {p q : Pt} (h : l.wt p ≠ l.wt q) : ¬ (l.a = 0 ∧ l.b = 0) := fun ⟨h1, h2⟩ => h (by unfold Hp.wt; rw [h1, h2]; grind)
/-- where an edge is crossed two lines cross -/
theorem cross_vx {Ls : List Hp} {l : Hp} {p q : Pt} (hl : l ∈ Ls) (he : Eg Ls p q) (hc : crossB (l.wt p) (l.wt q) = true) : Vx Ls (onW p q (l.wt p) (l.wt q)) := by
  obtain ⟨m, hm, hf, h1, h2⟩ := he
  refine ⟨m, hm, l, hl, ?_, by rw [onW_wt, h1, h2]; grind, by rw [onW_wt, (cross_share hc).2.2]⟩
  intro hd
  have hne : l.wt p ≠ l.wt q := by rcases cross_or hc with h | h <;> grind
  unfold det2 at hd
  unfold Hp.wt at h1 h2 hne
  refine hne ?_
  have e1 : m.a * (q.1 - p.1) + m.b * (q.2 - p.2) = 0 := by grind
  suffices e : l.a * (q.1 - p.1) + l.b * (q.2 - p.2) = 0 by grind
  by_cases ha : m.a = 0
  · have hb : m.b ≠ 0 := fun h => hf ⟨ha, h⟩
    rw [ha] at e1 hd
    have e2 : q.2 - p.2 = 0 := by
      rcases Rat.mul_eq_zero.mp (show m.b * (q.2 - p.2) = 0 by grind) with h | h
      · exact absurd h hb
      · exact h
    have e3 : l.a = 0 := by
      rcases Rat.mul_eq_zero.mp (show l.a * m.b = 0 by grind) with h | h
      · exact h
      · exact absurd h hb
    rw [e2, e3]; grind
  · have : m.a * (l.a * (q.1 - p.1) + l.b * (q.2 - p.2)) = 0 := by
      have : m.a * (l.a * (q.1 - p.1) + l.b * (q.2 - p.2)) = l.a * (m.a * (q.1 - p.1) + m.b * (q.2 - p.2)) + (m.a * l.b - l.a * m.b) * (q.2 - p.2) := by grind
      rw [this, e1, hd]; grind
    rcases Rat.mul_eq_zero.mp this with h | h
    · exact absurd h ha
    · exact h
/-- what is known of the last corner kept -/
def KeptAs (l : Hp) (k p : Pt) : Prop := (¬ l.wt p < 0 ∧ k = p) ∨ (l.wt p < 0 ∧ l.wt k = 0)
theorem cut1_eg {Ls : List Hp} {l : Hp} {p q k : Pt} (hl : l ∈ Ls) (he : Eg Ls p q) (hk : KeptAs l k p) : EgG Ls k (cut1 l p q) ∧ KeptAs l ((cut1 l p q).getLastD k) q := by
  obtain ⟨m, hm, hf, h1, h2⟩ := he
  by_cases hc : crossB (l.wt p) (l.wt q) = true
  · have hz : l.wt (onW p q (l.wt p) (l.wt q)) = 0 := by rw [onW_wt, (cross_share hc).2.2]
    have mz : m.wt (onW p q (l.wt p) (l.wt q)) = 0 := by rw [onW_wt, h1, h2]; grind
    have hne : l.wt p ≠ l.wt q := by rcases cross_or hc with h | h <;> grind
    unfold cut1
    rw [if_pos hc]
    rcases cross_or hc with ⟨ha, hb⟩ | ⟨ha, hb⟩
    · rw [if_pos hb]
      obtain ⟨_, rfl⟩ := hk.resolve_right (fun h => by have := h.1; grind)
      exact ⟨⟨⟨m, hm, hf, h1, mz⟩, trivial⟩, .inr ⟨hb, hz⟩⟩
    · rw [if_neg (by grind)]
      obtain ⟨_, hk0⟩ := hk.resolve_left (fun h => h.1 ha)
      exact ⟨⟨⟨l, hl, not_flat hne, hk0, hz⟩, ⟨m, hm, hf, mz, h2⟩, trivial⟩, .inl ⟨by grind, rfl⟩⟩
  · have hno : ¬ (0 < l.wt p ∧ l.wt q < 0) ∧ ¬ (l.wt p < 0 ∧ 0 < l.wt q) := by
      unfold crossB at hc
      simp only [Bool.or_eq_true, Bool.and_eq_true, decide_eq_true_eq, not_or] at hc
      exact hc
    unfold cut1
    rw [if_neg hc]
    by_cases hq : l.wt q < 0
    · rw [if_pos hq]
      refine ⟨trivial, .inr ⟨hq, ?_⟩⟩
      rcases hk with ⟨h, e⟩ | ⟨_, h⟩
      · show l.wt k = 0
        rw [e]
        have := hno.1
        grind
      · exact h
    · rw [if_neg hq]
      refine ⟨⟨?_, trivial⟩, .inl ⟨hq, rfl⟩⟩
      rcases hk with ⟨_, rfl⟩ | ⟨h, h0⟩
      · exact ⟨m, hm, hf, h1, h2⟩
      · have : l.wt q = 0 := by have := hno.2; grind
        exact ⟨l, hl, not_flat (p := p) (q := q) (by grind), h0, this⟩
theorem getLastD_append {α : Type} : ∀ {A B : List α} {d : α}, (A ++ B).getLastD d = B.getLastD (A.getLastD d)
  | [], _, _ => rfl
  | a :: A, B, d => by
    have e : ∀ (L : List α) (x y : α), (x :: L).getLastD y = L.getLastD x := fun L x y => by cases L <;> simp [List.getLastD]
    rw [List.cons_append, e, getLastD_append, e]
theorem cutG_eg {Ls : List Hp} {l : Hp} (hl : l ∈ Ls) : ∀ {t : List Pt} {p k : Pt}, EgG Ls p t → KeptAs l k p → EgG Ls k (cutG l p t) ∧ KeptAs l ((cutG l p t).getLastD k) (t.getLastD p)
  | [], p, k, _, hk => ⟨trivial, hk⟩
  | q :: t, p, k, he, hk => by
    obtain ⟨h1, h2⟩ := cut1_eg hl he.1 hk
    obtain ⟨h3, h4⟩ := cutG_eg hl he.2 h2
    unfold cutG
    rw [egG_append, getLastD_append]
    refine ⟨⟨h1, h3⟩, ?_⟩
    rw [show (q :: t).getLastD p = t.getLastD q by cases t <;> simp [List.getLastD]]
    exact h4
/-- a ring of corners, each on two lines, neighbours on one -/
structure Ring (Ls : List Hp) (P : List Pt) : Prop where
  v : ∀ p ∈ P, Vx Ls p
  e : ∀ p, P.getLast? = some p → EgG Ls p P
theorem cutG_vx {Ls : List Hp} {l : Hp} (hl : l ∈ Ls) : ∀ {t : List Pt} {p : Pt}, EgG Ls p t → (∀ x ∈ t, Vx Ls x) → ∀ x ∈ cutG l p t, Vx Ls x
  | [], _, _, _, x, hx => by cases hx
  | q :: t, p, he, hv, x, hx => by
    unfold cutG cut1 at hx
    rcases List.mem_append.mp hx with hx | hx
    · rcases List.mem_append.mp hx with hx | hx
      · split at hx
        · rename_i hc
          rw [List.mem_singleton.mp hx]
          exact cross_vx hl he.1 hc
        · cases hx
      · split at hx
        · cases hx
        · rw [List.mem_singleton.mp hx]
          exact hv q (by simp)
    · exact cutG_vx hl he.2 (fun y hy => hv y (List.mem_cons_of_mem _ hy)) x hx
theorem getLastD_of {α : Type} {L : List α} {p d : α} (h : L.getLast? = some p) : L.getLastD d = p := by
  rw [List.getLastD_eq_getLast?, h]; rfl
theorem cut_ring {Ls : List Hp} {P : List Pt} {l : Hp} (hl : l ∈ Ls) (h : Ring Ls P) : Ring Ls (cutP P l) := by
  cases hp : P.getLast? with
  | none =>
    have e : cutP P l = [] := by unfold cutP; rw [hp]
    rw [e]
    exact ⟨fun p hp => (by cases hp), fun p hp => (by cases hp)⟩
  | some p0 =>
    have e : cutP P l = cutG l p0 P := by unfold cutP; rw [hp]
    rw [e]
    have he := h.e p0 hp
    refine ⟨cutG_vx hl he h.v, fun k hk => ?_⟩
    have hk0 := getLastD_of (d := p0) hk
    have hkp : KeptAs l k p0 := by
      by_cases hd : l.wt p0 < 0
      · -- some corner on the line to begin with
        by_cases hz : ∃ z : Pt, l.wt z = 0
        · obtain ⟨z, hz⟩ := hz
          have := (cutG_eg hl he (k := z) (.inr ⟨hd, hz⟩)).2
          rw [getLastD_of hk, getLastD_of hp] at this
          exact this
        · refine absurd ⟨?_, ?_⟩ hz
          · exact if l.a ≠ 0 then (-l.c / l.a, 0) else (0, -l.c / l.b)
          · have hf : ¬ (l.a = 0 ∧ l.b = 0) := by
              intro hf
              have all : ∀ x : Pt, l.wt x = l.wt p0 := fun x => by unfold Hp.wt; rw [hf.1, hf.2]; grind
              have : ∀ (t : List Pt) (p : Pt), cutG l p t = [] := by
                intro t
                induction t with
                | nil => intro p; rfl
                | cons q t ih =>
                  intro p
                  unfold cutG cut1
                  rw [ih, if_neg (by rw [all p, all q]; unfold crossB; simp only [Bool.or_eq_true, Bool.and_eq_true, decide_eq_true_eq]; grind), if_pos (by rw [all q]; exact hd)]
                  rfl
              rw [this] at hk
              cases hk
            unfold Hp.wt
            split
            · rename_i ha
              show l.a * (-l.c / l.a) + l.b * 0 + l.c = 0
              have := Rat.div_mul_cancel (a := -l.c) ha
              grind
            · rename_i ha
              have ha : l.a = 0 := by simpa using ha
              have hb : l.b ≠ 0 := fun hb => hf ⟨ha, hb⟩
              show l.a * 0 + l.b * (-l.c / l.b) + l.c = 0
              have := Rat.div_mul_cancel (a := -l.c) hb
              grind
      · have := (cutG_eg hl he (k := p0) (.inl ⟨hd, rfl⟩)).2
        rw [getLastD_of hk, getLastD_of hp] at this
        exact this
    exact (cutG_eg hl he hkp).1
/-- the corners of a square -/
def sqP (b e lo hi : Rat) : List Pt := [(b, lo), (e, lo), (e, hi), (b, hi)]
theorem sq_ring {Ls : List Hp} {b e lo hi : Rat} (h0 : (⟨1, 0, 0 - b⟩ : Hp) ∈ Ls) (h1 : (⟨-1, 0, e⟩ : Hp) ∈ Ls) (h2 : (⟨0, 1, 0 - lo⟩ : Hp) ∈ Ls) (h3 : (⟨0, -1, hi⟩ : Hp) ∈ Ls) : Ring Ls (sqP b e lo hi) := by
  have dn : ∀ {a b c d u v : Rat}, a * d - c * b ≠ 0 → det2 ⟨a, b, u⟩ ⟨c, d, v⟩ ≠ 0 := fun h => h
  have fn : ∀ {a b c : Rat}, (a ≠ 0 ∨ b ≠ 0) → ¬ ((⟨a, b, c⟩ : Hp).a = 0 ∧ (⟨a, b, c⟩ : Hp).b = 0) := fun h g => h.elim (fun h => h g.1) (fun h => h g.2)
  have w0 : ∀ y : Rat, (⟨1, 0, 0 - b⟩ : Hp).wt (b, y) = 0 := fun y => by show 1 * b + 0 * y + (0 - b) = 0; grind
  have w1 : ∀ y : Rat, (⟨-1, 0, e⟩ : Hp).wt (e, y) = 0 := fun y => by show -1 * e + 0 * y + e = 0; grind
  have w2 : ∀ x : Rat, (⟨0, 1, 0 - lo⟩ : Hp).wt (x, lo) = 0 := fun x => by show 0 * x + 1 * lo + (0 - lo) = 0; grind
  have w3 : ∀ x : Rat, (⟨0, -1, hi⟩ : Hp).wt (x, hi) = 0 := fun x => by show 0 * x + -1 * hi + hi = 0; grind
  refine ⟨fun p hp => ?_, fun p hp => ?_⟩
  · unfold sqP at hp
    simp only [List.mem_cons, List.not_mem_nil, or_false] at hp
    rcases hp with rfl | rfl | rfl | rfl
    · exact ⟨_, h0, _, h2, dn (by grind), w0 _, w2 _⟩
    · exact ⟨_, h1, _, h2, dn (by grind), w1 _, w2 _⟩
    · exact ⟨_, h1, _, h3, dn (by grind), w1 _, w3 _⟩
    · exact ⟨_, h0, _, h3, dn (by grind), w0 _, w3 _⟩
  · obtain rfl : (b, hi) = p := Option.some.inj hp
    exact ⟨⟨_, h0, fn (.inl (by grind)), w0 _, w0 _⟩, ⟨_, h2, fn (.inr (by grind)), w2 _, w2 _⟩, ⟨_, h1, fn (.inl (by grind)), w1 _, w1 _⟩, ⟨_, h3, fn (.inr (by grind)), w3 _, w3 _⟩, trivial⟩
theorem sq_uni {b e lo hi : Rat} : Uni (sqP b e lo hi) := fun g => by
  have e4 : g.wt (b, lo) + g.wt (e, hi) = g.wt (e, lo) + g.wt (b, hi) := by unfold Hp.wt; grind
  unfold sqP
  simp only [List.map_cons, List.map_nil]
  cases h1 : sg (g.wt (b, lo)) <;> cases h2 : sg (g.wt (e, lo)) <;> cases h3 : sg (g.wt (e, hi)) <;> cases h4 : sg (g.wt (b, hi)) <;> simp only [sc] <;> (try omega) <;> exfalso <;> simp only [sg_m, sg_p] at * <;> grind
theorem sq_supp {b e lo hi : Rat} {q : Pt} (h1 : b ≤ q.1) (h2 : q.1 ≤ e) (h3 : lo ≤ q.2) (h4 : q.2 ≤ hi) : Supp (sqP b e lo hi) q := fun f => by
  have mono : ∀ {a x y : Rat}, 0 ≤ a → x ≤ y → a * x ≤ a * y := fun {a x y} ha h => by
    have := Rat.mul_nonneg ha (show 0 ≤ y - x by grind)
    grind
  have anti : ∀ {a x y : Rat}, a ≤ 0 → x ≤ y → a * y ≤ a * x := fun {a x y} ha h => by
    have := Rat.mul_nonneg (show 0 ≤ -a by grind) (show 0 ≤ y - x by grind)
    grind
  unfold Hp.wt sqP
  by_cases ha : 0 ≤ f.a <;> by_cases hb : 0 ≤ f.b
  · exact ⟨(e, hi), by simp, by have := mono ha h2; have := mono hb h4; grind⟩
  · exact ⟨(e, lo), by simp, by have := mono ha h2; have := anti (a := f.b) (by grind) h3; grind⟩
  · exact ⟨(b, hi), by simp, by have := anti (a := f.a) (by grind) h1; have := mono hb h4; grind⟩
  · exact ⟨(b, lo), by simp, by have := anti (a := f.a) (by grind) h1; have := anti (a := f.b) (by grind) h3; grind⟩

/-- the lines 0 to 3: s and t in two pieces -/
def spanH (a b c d : Cn) : List Hp := [⟨1, 0, 0 - a.m⟩, ⟨-1, 0, b.m⟩, ⟨0, 1, 0 - c.m⟩, ⟨0, -1, d.m⟩]
/-- the lines 4 and 5 -/
def winH (f g : Fl) : List Hp := [⟨1, -1, f.w⟩, ⟨-1, 1, g.w⟩]
def rateR (x y : Rat) (a b : Cn) : Rat := (y - x) / (b.m - a.m)
def baseR (x y : Rat) (a b : Cn) : Rat := x - rateR x y a b * a.m
def sideH (x y u v r : Rat) (a b c d : Cn) : List Hp :=
  [⟨0 - rateR x y a b, rateR u v c d, r - (baseR x y a b - baseR u v c d)⟩, ⟨rateR x y a b, 0 - rateR u v c d, r + (baseR x y a b - baseR u v c d)⟩]
def rch (f g : Fl) (p : Rat) : Rat := p + (f.u + g.u)
def rchV (f g : Fl) (q : Rat) : Rat := q + (f.v + g.v)
def restH (f g : Fl) (p q : Rat) (a b c d : Cn) : List Hp :=
  winH f g ++ (sideH a.x b.x c.x d.x (rch f g p) a b c d ++ (sideH a.y b.y c.y d.y (rch f g p) a b c d ++ sideH a.z b.z c.z d.z (rchV f g q) a b c d))
def lin12 (f g : Fl) (p q : Rat) (a b c d : Cn) : List Hp := spanH a b c d ++ restH f g p q a b c d
/-- the lines that are to be above nought -/
def openH (f g : Fl) (p q : Rat) (a b c d : Cn) : List Hp :=
  [⟨-1, 0, b.m⟩, ⟨0, -1, d.m⟩] ++ (sideH a.x b.x c.x d.x (rch f g p) a b c d ++ (sideH a.y b.y c.y d.y (rch f g p) a b c d ++ sideH a.z b.z c.z d.z (rchV f g q) a b c d))
/-- own moments that are a meet of two pieces -/
def Feas (f g : Fl) (p q : Rat) (a b c d : Cn) (x : Pt) : Prop := (∀ l ∈ lin12 f g p q a b c d, 0 ≤ l.wt x) ∧ ∀ l ∈ openH f g p q a b c d, 0 < l.wt x
theorem open_sub {f g : Fl} {p q : Rat} {a b c d : Cn} {l : Hp} (h : l ∈ openH f g p q a b c d) : l ∈ lin12 f g p q a b c d := by
  unfold openH at h
  unfold lin12 restH spanH
  simp only [List.mem_append, List.mem_cons, List.not_mem_nil, or_false] at h ⊢
  rcases h with (h | h) | h | h | h
  · exact .inl (.inr (.inl h))
  · exact .inl (.inr (.inr (.inr h)))
  · exact .inr (.inr (.inl h))
  · exact .inr (.inr (.inr (.inl h)))
  · exact .inr (.inr (.inr (.inr h)))
def cutBy (P : List Pt) (ls : List Hp) : List Pt := ls.foldl cutP P
def addP (x y : Pt) : Pt := (x.1 + y.1, x.2 + y.2)
def sumP : List Pt → Pt
  | [] => (0, 0)
  | p :: t => t.foldl addP p
def midP (ps : List Pt) : Pt := (((1 : Int) : Rat) / ((ps.length : Int) : Rat) * (sumP ps).1, ((1 : Int) : Rat) / ((ps.length : Int) : Rat) * (sumP ps).2)
def pickP (P : List Pt) : List Hp → Option (List Pt)
  | [] => some []
  | l :: ls => (P.find? fun x => decide (0 < l.wt x)).bind fun x => (pickP P ls).map (x :: ·)
def innerP (P : List Pt) (ls : List Hp) : Option Pt := (pickP P ls).map midP
def farB (f g : Fl) (a b c d : Cn) : Bool := !decide (0 < 0 - a.m + d.m + g.w) || !decide (0 < b.m + (0 - c.m) + f.w)
def meetW (f g : Fl) (p q : Rat) (a b c d : Cn) : Option Pt :=
  if farB f g a b c d = true then none else innerP (cutBy (sqP a.m b.m c.m d.m) (restH f g p q a b c d)) (openH f g p q a b c d)
theorem cutBy_supp : ∀ {ls : List Hp} {P : List Pt} {q : Pt}, Uni P → Supp P q → (∀ l ∈ ls, 0 ≤ l.wt q) → Supp (cutBy P ls) q
  | [], _, _, _, h, _ => h
  | l :: ls, P, q, hu, hs, h => cutBy_supp (ls := ls) (P := cutP P l) (cut_uni l hu) (cut_supp hu hs (h l (by simp))) fun m hm => h m (by simp [hm])
theorem cutBy_ring {Ls : List Hp} : ∀ {ls : List Hp} {P : List Pt}, Ring Ls P → (∀ l ∈ ls, l ∈ Ls) → Ring Ls (cutBy P ls)
  | [], _, h, _ => h
  | l :: ls, P, h, hl => cutBy_ring (ls := ls) (P := cutP P l) (cut_ring (hl l (by simp)) h) fun m hm => hl m (by simp [hm])
/-- a cut leaves nothing below a line that all corners were above -/
theorem cut_keep {P : List Pt} {l m : Hp} (h : ∀ x ∈ P, 0 ≤ m.wt x) : ∀ x ∈ cutP P l, 0 ≤ m.wt x := by
  unfold cutP
  cases hp : P.getLast? with
  | none => intro x hx; cases hx
  | some p0 =>
    have key : ∀ (t : List Pt) (p : Pt), 0 ≤ m.wt p → (∀ x ∈ t, 0 ≤ m.wt x) → ∀ x ∈ cutG l p t, 0 ≤ m.wt x := by
      intro t
      induction t with
      | nil => intro p _ _ x hx; cases hx
      | cons q t ih =>
        intro p h0 ht x hx
        have hq := ht q (by simp)
        unfold cutG cut1 at hx
        rcases List.mem_append.mp hx with hx | hx
        · rcases List.mem_append.mp hx with hx | hx
          · split at hx
            · rename_i hc
              rw [List.mem_singleton.mp hx, onW_wt]
              obtain ⟨s0, s1, _⟩ := cross_share hc
              generalize l.wt p / (l.wt p - l.wt q) = s at s0 s1
              have := Rat.mul_nonneg (Rat.le_of_lt s0) hq
              have := Rat.mul_nonneg (show 0 ≤ 1 - s by grind) h0
              grind
            · cases hx
          · split at hx
            · cases hx
            · rw [List.mem_singleton.mp hx]; exact hq
        · exact ih q hq (fun y hy => ht y (by simp [hy])) x hx
    exact key P p0 (h p0 (List.mem_of_getLast? hp)) h
theorem cut_above {P : List Pt} {l : Hp} : ∀ x ∈ cutP P l, 0 ≤ l.wt x := by
  unfold cutP
  cases P.getLast? with
  | none => intro x hx; cases hx
  | some p0 =>
    intro x hx
    have := (mem_cutG.mp hx).2
    grind
theorem cutBy_keep {m : Hp} : ∀ {ls : List Hp} {P : List Pt}, (∀ x ∈ P, 0 ≤ m.wt x) → ∀ x ∈ cutBy P ls, 0 ≤ m.wt x
  | [], _, h => h
  | l :: ls, P, h => cutBy_keep (ls := ls) (cut_keep h)
theorem cutBy_above : ∀ {ls : List Hp} {P : List Pt} {l : Hp}, l ∈ ls → ∀ x ∈ cutBy P ls, 0 ≤ l.wt x
  | l :: ls, P, m, h => by
    rcases List.mem_cons.mp h with rfl | h
    · exact cutBy_keep (ls := ls) cut_above
    · exact cutBy_above (ls := ls) h
theorem pick_is {P : List Pt} : ∀ {ls : List Hp} {ps : List Pt}, pickP P ls = some ps → ps.length = ls.length ∧ (∀ x ∈ ps, x ∈ P) ∧ ∀ l ∈ ls, ∃ x ∈ ps, 0 < l.wt x
  | [], ps, h => by cases h; exact ⟨rfl, fun x hx => (by cases hx), fun l hl => (by cases hl)⟩
  | l :: ls, ps, h => by
    unfold pickP at h
    simp only [Option.bind_eq_some_iff, Option.map_eq_some_iff] at h
    obtain ⟨x, hx, qs, hq, rfl⟩ := h
    obtain ⟨h1, h2, h3⟩ := pick_is hq
    have hxP := List.mem_of_find?_eq_some hx
    have hx0 : 0 < l.wt x := by simpa using List.find?_some hx
    refine ⟨by rw [List.length_cons, List.length_cons, h1], fun y hy => ?_, fun m hm => ?_⟩
    · rcases List.mem_cons.mp hy with rfl | hy
      · exact hxP
      · exact h2 y hy
    · rcases List.mem_cons.mp hm with rfl | hm
      · exact ⟨x, by simp, hx0⟩
      · obtain ⟨y, hy, h4⟩ := h3 m hm
        exact ⟨y, by simp [hy], h4⟩
theorem pick_none {P : List Pt} : ∀ {ls : List Hp}, pickP P ls = none → ∃ l ∈ ls, ∀ x ∈ P, ¬ 0 < l.wt x
  | [], h => by cases h
  | l :: ls, h => by
    unfold pickP at h
    cases hx : P.find? fun x => decide (0 < l.wt x) with
    | none =>
      rw [List.find?_eq_none] at hx
      exact ⟨l, by simp, fun x hx' => by simpa using hx x hx'⟩
    | some x =>
      rw [hx, Option.bind_some, Option.map_eq_none_iff] at h
      obtain ⟨m, hm, h2⟩ := pick_none h
      exact ⟨m, by simp [hm], h2⟩
theorem wt_sum {l : Hp} : ∀ (t : List Pt) (p : Pt), l.a * (t.foldl addP p).1 + l.b * (t.foldl addP p).2 = (l.wt p - l.c) + (t.map fun x => l.wt x - l.c).sum
  | [], p => by show l.a * p.1 + l.b * p.2 = (l.a * p.1 + l.b * p.2 + l.c - l.c) + 0; grind
  | x :: t, p => by
    rw [List.foldl_cons, wt_sum t (addP p x), List.map_cons, List.sum_cons]
    unfold Hp.wt addP
    grind
theorem sum_shift {l : Hp} : ∀ t : List Pt, (t.map fun x => l.wt x - l.c).sum = (t.map fun x => l.wt x).sum - ((t.length : Int) : Rat) * l.c
  | [] => by show (0 : Rat) = 0 - ((0 : Int) : Rat) * l.c; grind
  | x :: t => by
    rw [List.map_cons, List.sum_cons, sum_shift t, List.map_cons, List.sum_cons, List.length_cons]
    have : (((t.length + 1 : Nat) : Int) : Rat) = ((t.length : Int) : Rat) + 1 := by
      rw [Int.natCast_add, Rat.intCast_add]
      rfl
    rw [this]
    grind
theorem sum_nonneg : ∀ {L : List Rat}, (∀ x ∈ L, 0 ≤ x) → 0 ≤ L.sum
  | [], _ => Rat.le_refl
  | x :: L, h => by
    rw [List.sum_cons]
    have := h x (by simp)
    have := sum_nonneg (L := L) fun y hy => h y (by simp [hy])
    grind
theorem sum_pos : ∀ {L : List Rat}, (∀ x ∈ L, 0 ≤ x) → (∃ x ∈ L, 0 < x) → 0 < L.sum
  | [], _, ⟨x, hx, _⟩ => by cases hx
  | x :: L, h, ⟨y, hy, h0⟩ => by
    rw [List.sum_cons]
    have h1 := h x (by simp)
    rcases List.mem_cons.mp hy with rfl | hy
    · have := sum_nonneg (L := L) fun z hz => h z (by simp [hz])
      grind
    · have := sum_pos (L := L) (fun z hz => h z (by simp [hz])) ⟨y, hy, h0⟩
      grind
/-- a line's number at the middle of points is the middle of theirs -/
theorem wt_mid {l : Hp} {ps : List Pt} (hne : ps ≠ []) : ((ps.length : Int) : Rat) * l.wt (midP ps) = (ps.map fun x => l.wt x).sum := by
  have e0 : ((ps.length : Int) : Rat) ≠ 0 := by
    have : 0 < ps.length := by cases ps with | nil => exact absurd rfl hne | cons p t => simp
    have := Rat.intCast_pos.mpr (show (0 : Int) < (ps.length : Int) by omega)
    grind
  have e := Rat.div_mul_cancel (a := ((1 : Int) : Rat)) e0
  unfold midP Hp.wt
  generalize ((1 : Int) : Rat) / ((ps.length : Int) : Rat) = s at e ⊢
  have h2 := sum_shift (l := l) ps
  have h1 : l.a * (sumP ps).1 + l.b * (sumP ps).2 = (ps.map fun x => l.wt x - l.c).sum := by
    cases ps with
    | nil => exact absurd rfl hne
    | cons p t =>
      rw [List.map_cons, List.sum_cons]
      exact wt_sum t p
  generalize sumP ps = r at h1 ⊢
  generalize ((ps.length : Int) : Rat) = n at e h2 ⊢
  have e1 : ((1 : Int) : Rat) = 1 := rfl
  rw [e1] at e
  show n * (l.a * (s * r.1) + l.b * (s * r.2) + l.c) = (ps.map fun x => l.wt x).sum
  have : n * (l.a * (s * r.1) + l.b * (s * r.2) + l.c) = (s * n) * (l.a * r.1 + l.b * r.2) + n * l.c := by grind
  rw [this, e, h1, h2]
  grind
/-- a middle is above a line that none of its points is below and one is above -/
theorem mid_pos {l : Hp} {ps : List Pt} (h : ∀ x ∈ ps, 0 ≤ l.wt x) (hx : ∃ x ∈ ps, 0 < l.wt x) : 0 < l.wt (midP ps) := by
  obtain ⟨x, hm, h0⟩ := hx
  have hne : ps ≠ [] := fun e => by rw [e] at hm; cases hm
  have e := wt_mid (l := l) hne
  have hs := sum_pos (L := ps.map fun x => l.wt x) (fun y hy => by
    obtain ⟨z, hz, rfl⟩ := List.mem_map.mp hy
    exact h z hz) ⟨l.wt x, List.mem_map.mpr ⟨x, hm, rfl⟩, h0⟩
  rw [← e] at hs
  have hn : 0 < ((ps.length : Int) : Rat) := by
    have : 0 < ps.length := List.length_pos_iff.mpr hne
    exact Rat.intCast_pos.mpr (by omega)
  refine Decidable.byContradiction fun hc => ?_
  have := Rat.mul_nonneg (Rat.le_of_lt hn) (show 0 ≤ 0 - l.wt (midP ps) by grind)
  grind
theorem mid_nonneg {l : Hp} {ps : List Pt} (hne : ps ≠ []) (h : ∀ x ∈ ps, 0 ≤ l.wt x) : 0 ≤ l.wt (midP ps) := by
  have e := wt_mid (l := l) hne
  have hs := sum_nonneg (L := ps.map fun x => l.wt x) (fun y hy => by
    obtain ⟨z, hz, rfl⟩ := List.mem_map.mp hy
    exact h z hz)
  rw [← e] at hs
  have hn : 0 < ((ps.length : Int) : Rat) := by
    have : 0 < ps.length := List.length_pos_iff.mpr hne
    exact Rat.intCast_pos.mpr (by omega)
  refine Decidable.byContradiction fun hc => ?_
  have := Rat.mul_pos hn (show 0 < 0 - l.wt (midP ps) by grind)
  grind
/-- a square's points and the first four lines -/
theorem sq_span {a b c d : Cn} (h1 : a.m < b.m) (h2 : c.m < d.m) {l : Hp} (hl : l ∈ spanH a b c d) : ∀ x ∈ sqP a.m b.m c.m d.m, 0 ≤ l.wt x := by
  intro x hx
  unfold sqP at hx
  unfold spanH at hl
  simp only [List.mem_cons, List.not_mem_nil, or_false] at hx hl
  unfold Hp.wt
  rcases hl with rfl | rfl | rfl | rfl <;> rcases hx with rfl | rfl | rfl | rfl <;> simp only <;> grind
theorem in_span {a b c d : Cn} {x : Pt} (h : ∀ l ∈ spanH a b c d, 0 ≤ l.wt x) : a.m ≤ x.1 ∧ x.1 ≤ b.m ∧ c.m ≤ x.2 ∧ x.2 ≤ d.m := by
  unfold spanH at h
  have h1 := h ⟨1, 0, 0 - a.m⟩ (by simp)
  have h2 := h ⟨-1, 0, b.m⟩ (by simp)
  have h3 := h ⟨0, 1, 0 - c.m⟩ (by simp)
  have h4 := h ⟨0, -1, d.m⟩ (by simp)
  unfold Hp.wt at h1 h2 h3 h4
  simp only at h1 h2 h3 h4
  refine ⟨?_, ?_, ?_, ?_⟩ <;> grind
/-- what is found of two pieces is a meet -/
theorem meetW_ok {f g : Fl} {p q : Rat} {a b c d : Cn} {x : Pt} (h1 : a.m < b.m) (h2 : c.m < d.m) (h : meetW f g p q a b c d = some x) : Feas f g p q a b c d x := by
  unfold meetW at h
  split at h
  · cases h
  · unfold innerP at h
    rw [Option.map_eq_some_iff] at h
    obtain ⟨ps, hp, rfl⟩ := h
    obtain ⟨k1, k2, k3⟩ := pick_is hp
    have hne : ps ≠ [] := fun e => by rw [e] at k1; simp [openH] at k1
    have all : ∀ l ∈ lin12 f g p q a b c d, ∀ y ∈ ps, 0 ≤ l.wt y := fun l hl y hy => by
      rcases List.mem_append.mp hl with hl | hl
      · exact cutBy_keep (ls := restH f g p q a b c d) (sq_span h1 h2 hl) y (k2 y hy)
      · exact cutBy_above hl y (k2 y hy)
    exact ⟨fun l hl => mid_nonneg hne (all l hl), fun l hl => mid_pos (all l (open_sub hl)) (k3 l hl)⟩
theorem far_no {f g : Fl} {p q : Rat} {a b c d : Cn} {x : Pt} (h : Feas f g p q a b c d x) : farB f g a b c d = false := by
  obtain ⟨h1, h2⟩ := h
  have a1 := h1 ⟨1, 0, 0 - a.m⟩ (by simp [lin12, spanH])
  have a3 := h2 ⟨0, -1, d.m⟩ (by simp [openH])
  have a5 := h1 ⟨-1, 1, g.w⟩ (by simp [lin12, restH, winH])
  have b1 := h2 ⟨-1, 0, b.m⟩ (by simp [openH])
  have b2 := h1 ⟨0, 1, 0 - c.m⟩ (by simp [lin12, spanH])
  have b4 := h1 ⟨1, -1, f.w⟩ (by simp [lin12, restH, winH])
  unfold Hp.wt at a1 a3 a5 b1 b2 b4
  simp only at a1 a3 a5 b1 b2 b4
  unfold farB
  rw [decide_eq_true (by grind), decide_eq_true (by grind)]
  rfl
/-- where none is found there is none -/
theorem meetW_no {f g : Fl} {p q : Rat} {a b c d : Cn} {x : Pt} (hx : Feas f g p q a b c d x) : meetW f g p q a b c d ≠ none := by
  intro h
  unfold meetW at h
  rw [far_no hx, if_neg (by decide)] at h
  unfold innerP at h
  rw [Option.map_eq_none_iff] at h
  obtain ⟨l, hl, hno⟩ := pick_none h
  obtain ⟨s1, s2, s3, s4⟩ := in_span (fun m hm => hx.1 m (List.mem_append_left _ hm))
  obtain ⟨y, hy, hle⟩ := cutBy_supp (ls := restH f g p q a b c d) sq_uni (sq_supp s1 s2 s3 s4) (fun m hm => hx.1 m (List.mem_append_right _ hm)) l
  have := hx.2 l hl
  exact hno y hy (by grind)

local macro_rules | `(tactic| right) => `(tactic| first
  | assumption
  | (with_reducible apply fr_F; (focus right))
  | (with_reducible apply fr_eD; (focus right))
  | exact fr_0
  | exact fr_1
  | (apply fr_int (n := 64); (focus decide); (focus (first | decide | omega)))
  | (apply fr_pair (n := 16); (focus decide); (focus decide); (focus decide); (focus decide))
  | (with_reducible apply sz_add; (focus right); (focus right))
  | (with_reducible apply sz_sub; (focus right); (focus right))
  | (with_reducible apply sz_mul; (focus right); (focus right))
  | (with_reducible apply sz_part (n := 16); (focus decide); (focus decide); (focus decide))
  | (with_reducible apply sz_div; (focus right); (focus right); (focus (first | assumption | grind)))
  | (with_reducible apply sz_min; (focus right); (focus right))
  | (with_reducible apply sz_max; (focus right); (focus right))
  | with_reducible exact sz_0
  | with_reducible exact sz_1
  | (with_reducible apply Cz.sm; (focus assumption))
  | (with_reducible apply Cz.sx; (focus assumption))
  | (with_reducible apply Cz.sy; (focus assumption))
  | (with_reducible apply Cz.sz; (focus assumption))
  | with_reducible exact tn_none
  | (with_reducible apply tn_list; (focus right))
  | (with_reducible apply tn_tuple; (focus right))
  | (with_reducible apply tn_F; (focus right); (focus (first | decide | omega)))
  | (with_reducible apply nc_F; (focus right); (focus (first | decide | omega)))
  | (with_reducible apply nc_C; (focus right); (focus (first | decide | omega)))
  | (with_reducible apply nc_CL; (focus right); (focus (first | decide | omega)))
  | with_reducible exact nc_none
  | with_reducible exact nc_bool
  | (with_reducible apply nc_int (m := 64); (focus omega); (focus decide))
  | (with_reducible apply nc_tuple; (focus right))
  | (with_reducible apply nc_list; (focus right))
  | with_reducible exact ncl_nil
  | (with_reducible apply ncl_cons; (focus right); (focus right))
  | (with_reducible apply ncl_map; (focus (intro _ _; right)); (focus assumption))
  | (apply sz_int (n := 64); (focus decide); (focus omega)))
local macro_rules | `(tactic| left) => `(tactic| first
  | refine wc_eqSs ?_
  | refine wc_neSs ?_
  | (apply wbl_strT; (focus right); (focus decide); (focus (first | decide | omega)))
  | refine we_app rfl ?_
  | refine we_ext rfl ?_
  | (apply wap_end; (focus (first | rfl | assumption)); (focus (first | (simp only [List.length_append, List.length_map, List.length_cons, List.length_nil, lineN] at *; omega))))
  | (apply wxt_end; (focus (first | rfl | assumption)); (focus (first | (simp only [List.length_append, List.length_map, List.length_cons, List.length_nil, lineN] at *; omega))))
  | (apply wlk_end; (focus (first | rfl | assumption)))
  | (apply wpl_end; (focus (first | rfl | assumption)))
  | (apply wpk_end; (focus (first | rfl | assumption)))
  | (apply wsq_end; (focus (first | rfl | assumption)))
  | (apply wd_end; (focus (first | rfl | assumption)))
  | (apply wd_loc; (focus (first | rfl | assumption)))
  | (apply wb_addT; (focus (first | (simp only [List.length_append, List.length_map, List.length_cons, List.length_nil, lineN] at *; omega))))
  | (apply wb_addL; (focus (first | (simp only [List.length_append, List.length_map, List.length_cons, List.length_nil, lineN] at *; omega))))
  | refine wlc_nil ?_
  | refine wlc_cons ?_
  | refine wfor_nil ?_
  | refine wfor_cons ?_
  | refine tu_nx ?_
  | refine tu_ct ?_
  | refine tu_brk ?_
  | refine tu_ret ?_
  | refine tm_ret ?_
  | refine tm_brk ?_
  | refine tm_ct ?_
  | refine tm_nx ?_)

local macro_rules | `(tactic| left) => `(tactic| (with_reducible apply plus_wF; (focus right); (focus right); (focus (first | decide | omega))))

local macro_rules | `(tactic| left) => `(tactic| (with_reducible apply minus_wF; (focus right); (focus right); (focus (first | decide | omega))))

local macro_rules | `(tactic| left) => `(tactic| (with_reducible apply times_wF; (focus right); (focus right); (focus (first | decide | omega))))

local macro_rules | `(tactic| left) => `(tactic| (with_reducible apply over_wF; (focus right); (focus right); (focus (first | assumption | grind)); (focus (first | decide | omega))))

local macro_rules | `(tactic| left) => `(tactic| (with_reducible apply before_wF; (focus right); (focus right); (focus (first | decide | omega))))

local macro_rules | `(tactic| left) => `(tactic| (with_reducible apply lsum_wF; (focus right); (focus right); (focus (first | decide | omega))))

local macro_rules | `(tactic| left) => `(tactic| (with_reducible apply lproduct_wF; (focus right); (focus right); (focus (first | decide | omega))))

local macro_rules | `(tactic| left) => `(tactic| first
  | refine wl_rd (by assumption) ?_
  | refine wp_lk (by assumption) ?_
  | refine wp_lks (by assumption) ?_
  | refine wp_sqL (by assumption) ?_
  | refine wp_sqT (by assumption) ?_
  | (apply wbl_step; (focus (first | decide | omega)))
  | refine tw_nx ?_
  | refine tw_ct ?_
  | refine tw_brk ?_
  | refine tw_ret ?_
  | (apply wxt_endT; (focus (first | rfl | assumption)); (focus (first | (simp only [List.length_append, List.length_map, List.length_cons, List.length_nil, lineN] at *; omega)))))

def HD (l : Hp) : PyData := .tuple [F l.a, F l.b, F l.c]
def XD (p : Pt) : PyData := .tuple [F p.1, F p.2]
structure Zl (n : Nat) (l : Hp) : Prop where
  a : Sz n l.a
  b : Sz n l.b
  c : Sz n l.c
structure Zp (n : Nat) (p : Pt) : Prop where
  x : Sz n p.1
  y : Sz n p.2
theorem Zp.mono {m n : Nat} {p : Pt} (h : Zp m p) (l : m ≤ n) : Zp n p := ⟨h.x.mono l, h.y.mono l⟩
theorem wt_sz {L S : Nat} {l : Hp} {p : Pt} (hl : Zl L l) (hp : Zp S p) : Sz (3 * L + 2 * S + 2) (l.wt p) :=
  (sz_add (sz_add (sz_mul hl.a hp.x) (sz_mul hl.b hp.y)) hl.c).mono (by omega)
theorem worth_wC {k L S : Nat} {l : Hp} {p : Pt} {st : Mem} {Q : WQ} (hl : Zl L l) (hp : Zp S p) (hb : 3 * L + 2 * S + 2 < 8900) (h : Q (.val (F (l.wt p))) st) : wC (callN pr (k + 4)) i_worth_at [.val (HD l), .val (XD p)] st Q := by
  have h1 := hl.a
  have h2 := hl.b
  have h3 := hl.c
  have h4 := hp.x
  have h5 := hp.y
  refine wc_call P_worth_at rfl ?_
  repeat' left
  exact wd_same h
theorem above_wC {k n : Nat} {q : Rat} {st : Mem} {Q : WQ} (hq : Sz n q) (hn : n < 8900) (h : Q (.val (.bool (decide (0 < q)))) st) : wC (callN pr (k + 2)) i_is_above [.val (F q)] st Q := by
  refine wc_call P_is_above rfl ?_
  repeat' left
  exact wd_same h
theorem way_wC {k S W : Nat} {p q : Pt} {lo hi : Rat} {st : Mem} {Q : WQ} (hp : Zp S p) (hq : Zp S q) (h1 : Sz W lo) (h2 : Sz W hi) (hne : lo - hi ≠ 0) (hb : 3 * W + 3 * S + 4 < 8900) (h : Q (.val (XD (onW p q lo hi))) st) : wC (callN pr (k + 4)) i_on_the_way [.val (XD p), .val (XD q), .val (F lo), .val (F hi)] st Q := by
  have a1 := hp.x
  have a2 := hp.y
  have b1 := hq.x
  have b2 := hq.y
  have ss : Sz (3 * W + 1) (lo / (lo - hi)) := (sz_div h1 (sz_sub h1 h2) hne).mono (by omega)
  refine wc_call P_on_the_way rfl ?_
  repeat' left
  refine wf_lcU (wi_zip ?_)
  repeat' left
  exact wd_same h
theorem above_wF {k n : Nat} {q : Rat} {x : PyData} {st : Mem} {Q : WQ} (hx : Fr n x q) (hn : n < 8900) (h : Q (.val (.bool (decide (0 < q)))) st) : wC (callN pr (k + 2)) i_is_above [.val x] st Q := by
  rw [hx.e]; exact above_wC hx.s hn h

local macro_rules | `(tactic| left) => `(tactic| (with_reducible apply above_wF; (focus right); (focus (first | decide | omega))))

theorem wE_mono {P : CallF} {e : Ex} {r : Rho} {st : Mem} {R Q : WQ} (h : wE P e r st R) (g : ∀ w s, R w s → Q w s) : wE P e r st Q := ⟨wp_mono h.go fun ⟨w, s⟩ q => g w s q⟩

theorem crossB_is {u v : Rat} : crossB u v = true ↔ (0 < u ∧ v < 0) ∨ (u < 0 ∧ 0 < v) := by
  unfold crossB
  simp
theorem cutG_app {l : Hp} : ∀ {A B : List Pt} {p : Pt}, cutG l p (A ++ B) = cutG l p A ++ cutG l (A.getLastD p) B
  | [], _, _ => rfl
  | a :: A, B, p => by
    rw [List.cons_append, cutG, cutG_app, cutG, List.append_assoc]
    rw [show (a :: A).getLastD p = A.getLastD a by cases A <;> simp [List.getLastD]]
theorem cutG_one {l : Hp} {A : List Pt} {p q : Pt} : cutG l p (A ++ [q]) = cutG l p A ++ cut1 l (A.getLastD p) q := by
  rw [cutG_app, cutG, cutG, List.append_nil]
theorem cut1_len {l : Hp} {p q : Pt} : (cut1 l p q).length ≤ 2 := by
  unfold cut1
  split <;> split <;> simp
theorem cutG_len {l : Hp} : ∀ {t : List Pt} {p : Pt}, (cutG l p t).length ≤ 2 * t.length
  | [], _ => Nat.le_refl _
  | q :: t, p => by
    rw [cutG, List.length_append, List.length_cons]
    have := cut1_len (l := l) (p := p) (q := q)
    have := cutG_len (l := l) (t := t) (p := q)
    omega
theorem cutP_len {P : List Pt} {l : Hp} : (cutP P l).length ≤ 2 * P.length := by
  unfold cutP
  split
  · simp
  · exact cutG_len
theorem cut_wC {k L S : Nat} {P : List Pt} {l : Hp} {st : Mem} {Q : WQ} (hl : Zl L l) (hP : ∀ p ∈ P, Zp S p) (hn : P.length ≤ 5000) (hb : 9 * L + 9 * S + 10 < 8900) (h : Q (.val (.list ((cutP P l).map XD))) st) : wC (callN pr (k + 6)) i_cut [.val (.list (P.map XD)), .val (HD l)] st Q := by
  cases hp : P.getLast? with
  | none =>
    rw [List.getLast?_eq_none_iff] at hp
    subst hp
    refine wc_call P_cut rfl ?_
    repeat' left
    exact h
  | some p0 =>
    have e0 : cutP P l = cutG l p0 P := by unfold cutP; rw [hp]
    rw [e0] at h
    have hp0 : p0 ∈ P := List.mem_of_getLast? hp
    have z0 := hP p0 hp0
    have hl1 : (P.map XD).getLast? = some (XD p0) := by rw [List.getLast?_map, hp]; rfl
    have hne : P ≠ [] := fun e => by rw [e] at hp0; cases hp0
    have hlen : ((P.map XD).length : Int) ≠ 0 := by
      have := List.length_pos_iff.mpr hne
      rw [List.length_map]
      omega
    refine wc_call P_cut rfl ?_
    repeat' left
    refine wx_is (idx_last hl1) ?_
    repeat' left
    refine worth_wC hl z0 (by omega) ?_
    repeat' left
    refine ws_forX XD (wi_seq ?_)
    repeat' left
    refine ⟨rfl, fun done _ r s => (∃ a5 a6, r = [some (.val (.list (P.map XD))), some (.val (HD l)), some (.loc st.length), some (.val (XD (done.getLastD p0))), some (.val (F (l.wt (done.getLastD p0)))), a5, a6]) ∧ s = st ++ [(true, (cutG l p0 done).map XD)], ⟨⟨_, _, rfl⟩, rfl⟩, ?_, ?_⟩
    · rintro r s ⟨⟨a5, a6, rfl⟩, rfl⟩
      repeat' left
      exact h
    rintro done q todo r s e1 ⟨⟨a5, a6, rfl⟩, rfl⟩
    have hq : q ∈ P := by rw [e1]; simp
    have zq := hP q hq
    have hdl : done.length < 5000 := by rw [e1, List.length_append, List.length_cons] at hn; omega
    have hcl : (cutG l p0 done).length ≤ 2 * done.length := cutG_len
    have zl : Zp S (done.getLastD p0) := by
      have hm : done.getLastD p0 ∈ p0 :: done := by
        cases done with
        | nil => simp
        | cons a t => rw [List.getLastD_cons]; exact List.mem_cons_of_mem _ (List.getLastD_mem_cons ..)
      rcases List.mem_cons.mp hm with e | hm
      · rw [e]; exact z0
      · exact hP _ (by rw [e1]; exact List.mem_append_left _ hm)
    have w1 := wt_sz hl zl
    have w2 := wt_sz hl zq
    have nx : (done ++ [q]).getLastD p0 = q := by rw [getLastD_append]; rfl
    have stp : (cutG l p0 (done ++ [q])).map XD = (cutG l p0 done).map XD ++ (cut1 l (done.getLastD p0) q).map XD := by rw [cutG_one, List.map_append]
    generalize hM : cutG l p0 done = M at *
    clear hP e1 h
    repeat' left
    refine worth_wC hl zq (by omega) ?_
    refine wk_nx (wss_cons (ws_ite (wE_mono (R := fun w s => w = .val (.bool (crossB (l.wt (done.getLastD p0)) (l.wt q))) ∧ s = st ++ [(true, M.map XD)]) ?_ ?_)))
    · repeat' left
      all_goals
        refine ⟨congrArg W.val (congrArg PyData.bool (Bool.eq_iff_iff.mpr ?_)), rfl⟩
        rw [crossB_is]
        generalize l.wt (done.getLastD p0) = lo at *
        generalize l.wt q = hi at *
        clear hl1 hlen
        grind
    have fin : ∀ cs : List Pt, cut1 l (done.getLastD p0) q = cs → ∀ (a b : Option W), (∃ a5 a6, ([some (.val (.list (P.map XD))), some (.val (HD l)), some (.loc st.length), some (.val (XD q)), some (.val (F (l.wt q))), a, b] : Rho) = [some (.val (.list (P.map XD))), some (.val (HD l)), some (.loc st.length), some (.val (XD ((done ++ [q]).getLastD p0))), some (.val (F (l.wt ((done ++ [q]).getLastD p0)))), a5, a6]) ∧ st ++ [(true, M.map XD ++ cs.map XD)] = st ++ [(true, (cutG l p0 (done ++ [q])).map XD)] := fun cs e a b => by
      rw [nx, stp, e]
      exact ⟨⟨a, b, rfl⟩, rfl⟩
    rintro w s ⟨rfl, rfl⟩
    cases hc : crossB (l.wt (done.getLastD p0)) (l.wt q)
    · repeat' left
      · rename_i hq0
        exact fin [q] (by unfold cut1; rw [hc, if_neg hq0]; rfl) _ _
      · rename_i hq0
        have e := fin [] (by unfold cut1; rw [hc, if_pos hq0]; rfl) (some (.val (XD q))) (some (.val (F (l.wt q))))
        rw [List.map_nil, List.append_nil] at e
        exact e
    · have hne : l.wt (done.getLastD p0) - l.wt q ≠ 0 := by rcases cross_or hc with h | h <;> grind
      repeat' left
      refine way_wC zl zq w1 w2 hne (by omega) ?_
      repeat' left
      · rename_i hq0
        have e := fin [onW (done.getLastD p0) q (l.wt (done.getLastD p0)) (l.wt q), q] (by unfold cut1; rw [hc, if_neg hq0]; rfl) (some (.val (XD q))) (some (.val (F (l.wt q))))
        simp only [List.map_cons, List.map_nil] at e
        simp only [List.append_assoc, List.cons_append, List.nil_append]
        exact e
      · rename_i hq0
        exact fin [onW (done.getLastD p0) q (l.wt (done.getLastD p0)) (l.wt q)] (by unfold cut1; rw [hc, if_pos hq0]; rfl) _ _

/-- a line of whole numbers over one bottom -/
def Il (h : Nat) (l : Hp) : Prop := ∃ (A B C D : Int), 0 < D ∧ D.natAbs < 2 ^ h ∧ A.natAbs < 2 ^ h ∧ B.natAbs < 2 ^ h ∧ C.natAbs < 2 ^ h ∧ l.a = (A : Rat) / (D : Rat) ∧ l.b = (B : Rat) / (D : Rat) ∧ l.c = (C : Rat) / (D : Rat)
theorem Il.zl {h : Nat} {l : Hp} (i : Il h l) : Zl h l := by
  obtain ⟨A, B, C, D, d0, d1, a1, b1, c1, ea, eb, ec⟩ := i
  have hd : D ≠ 0 := by omega
  exact ⟨by rw [ea]; exact sz_part hd a1 d1, by rw [eb]; exact sz_part hd b1 d1, by rw [ec]; exact sz_part hd c1 d1⟩
theorem rat_of_mul {q : Rat} {t b : Int} (hb : b ≠ 0) (h : q * (b : Rat) = (t : Rat)) : q = (t : Rat) / (b : Rat) := by
  have hb' : (b : Rat) ≠ 0 := fun e => hb (Rat.intCast_inj.mp e)
  have := Rat.div_mul_cancel (a := (t : Rat)) hb'
  generalize (t : Rat) / (b : Rat) = x at this ⊢
  have e : (q - x) * (b : Rat) = 0 := by grind
  rcases Rat.mul_eq_zero.mp e with e | e
  · grind
  · exact absurd e hb'
theorem Il.eqn {h : Nat} {l : Hp} (i : Il h l) : ∃ (A B C D : Int), 0 < D ∧ A.natAbs < 2 ^ h ∧ B.natAbs < 2 ^ h ∧ C.natAbs < 2 ^ h ∧ l.a * (D : Rat) = (A : Rat) ∧ l.b * (D : Rat) = (B : Rat) ∧ l.c * (D : Rat) = (C : Rat) := by
  obtain ⟨A, B, C, D, d0, d1, a1, b1, c1, ea, eb, ec⟩ := i
  have hd : (D : Rat) ≠ 0 := fun e => by have : D = 0 := Rat.intCast_inj.mp e; omega
  exact ⟨A, B, C, D, d0, a1, b1, c1, by rw [ea]; exact Rat.div_mul_cancel hd, by rw [eb]; exact Rat.div_mul_cancel hd, by rw [ec]; exact Rat.div_mul_cancel hd⟩
theorem vx_sz {Ls : List Hp} {h : Nat} {p : Pt} (hL : ∀ l ∈ Ls, Il h l) (hv : Vx Ls p) : Zp (2 * h + 1) p := by
  obtain ⟨l, hl, m, hm, hd, h1, h2⟩ := hv
  obtain ⟨A, B, C, D, d0, a1, b1, c1, ea, eb, ec⟩ := (hL l hl).eqn
  obtain ⟨A', B', C', D', d0', a1', b1', c1', ea', eb', ec'⟩ := (hL m hm).eqn
  have x0 : (D : Rat) ≠ 0 := fun e => by have : D = 0 := Rat.intCast_inj.mp e; omega
  have y0 : (D' : Rat) ≠ 0 := fun e => by have : D' = 0 := Rat.intCast_inj.mp e; omega
  unfold Hp.wt at h1 h2
  unfold det2 at hd
  have hdet : (A : Rat) * (B' : Rat) - (A' : Rat) * (B : Rat) ≠ 0 := by
    intro e
    rw [← ea, ← eb', ← ea', ← eb] at e
    have : (D : Rat) * (D' : Rat) * (l.a * m.b - m.a * l.b) = 0 := by grind
    rcases Rat.mul_eq_zero.mp this with e | e
    · rcases Rat.mul_eq_zero.mp e with e | e
      · exact x0 e
      · exact y0 e
    · exact hd e
  have e1 : (A : Rat) * p.1 + (B : Rat) * p.2 + (C : Rat) = 0 := by
    rw [← ea, ← eb, ← ec]
    have : (D : Rat) * (l.a * p.1 + l.b * p.2 + l.c) = 0 := by rw [h1]; grind
    grind
  have e2 : (A' : Rat) * p.1 + (B' : Rat) * p.2 + (C' : Rat) = 0 := by
    rw [← ea', ← eb', ← ec']
    have : (D' : Rat) * (m.a * p.1 + m.b * p.2 + m.c) = 0 := by rw [h2]; grind
    grind
  have hdi : A * B' - A' * B ≠ 0 := fun e => hdet (by
    have := congrArg (fun z : Int => (z : Rat)) e
    simpa [Rat.intCast_sub, Rat.intCast_mul] using this)
  have f1 : p.1 * ((A * B' - A' * B : Int) : Rat) = ((C' * B - C * B' : Int) : Rat) := by
    simp only [Rat.intCast_sub, Rat.intCast_mul]
    grind
  have f2 : p.2 * ((A * B' - A' * B : Int) : Rat) = ((C * A' - C' * A : Int) : Rat) := by
    simp only [Rat.intCast_sub, Rat.intCast_mul]
    grind
  have n2 : ∀ {u v w z : Int}, u.natAbs < 2 ^ h → v.natAbs < 2 ^ h → w.natAbs < 2 ^ h → z.natAbs < 2 ^ h → (u * v - w * z).natAbs < 2 ^ (2 * h + 1) := fun g1 g2 g3 g4 => by
    have := natAbs_sub_lt (natAbs_mul_lt g1 g2) (natAbs_mul_lt g3 g4)
    rwa [show h + h + 1 = 2 * h + 1 by omega] at this
  refine ⟨?_, ?_⟩
  · rw [rat_of_mul hdi f1]
    exact sz_part hdi (n2 c1' b1 c1 b1') (n2 a1 b1' a1' b1)
  · rw [rat_of_mul hdi f2]
    exact sz_part hdi (n2 c1 a1' c1' a1) (n2 a1 b1' a1' b1)

/-- whole numbers below two to the power n, over D -/
def Wn (D : Int) (n : Nat) (q : Rat) : Prop := ∃ i : Int, q * (D : Rat) = (i : Rat) ∧ i.natAbs < 2 ^ n
structure Gok (D : Int) (n : Nat) (f : Fl) : Prop where
  c : ∀ c ∈ f.cs, Wn D n c.m ∧ Wn D n c.x ∧ Wn D n c.y ∧ Wn D n c.z
  p : f.cs.Pairwise (fun a b => a.m < b.m)
  two : 2 ≤ f.cs.length
  u : Wn D n f.u
  v : Wn D n f.v
  w : Wn D n f.w
theorem Wn.sz {D : Int} {n : Nat} {q : Rat} (h : Wn D n q) (hD : 0 < D) (hn : D.natAbs < 2 ^ n) : Sz n q := by
  obtain ⟨i, e, hi⟩ := h
  rw [rat_of_mul (by omega) e]
  exact sz_part (by omega) hi hn
theorem Wn.mono {D : Int} {m n : Nat} {q : Rat} (h : Wn D m q) (l : m ≤ n) : Wn D n q := by
  obtain ⟨i, e, hi⟩ := h
  exact ⟨i, e, Nat.lt_of_lt_of_le hi (Nat.pow_le_pow_right (by decide) l)⟩
theorem wn_add {D : Int} {m : Nat} {p q : Rat} (h : Wn D m p) (g : Wn D m q) : Wn D (m + 1) (p + q) := by
  obtain ⟨i, e, hi⟩ := h
  obtain ⟨j, e', hj⟩ := g
  exact ⟨i + j, by rw [Rat.intCast_add, ← e, ← e']; grind, natAbs_add_lt hi hj⟩
theorem wn_sub {D : Int} {m : Nat} {p q : Rat} (h : Wn D m p) (g : Wn D m q) : Wn D (m + 1) (p - q) := by
  obtain ⟨i, e, hi⟩ := h
  obtain ⟨j, e', hj⟩ := g
  exact ⟨i - j, by rw [Rat.intCast_sub, ← e, ← e']; grind, natAbs_sub_lt hi hj⟩
theorem il_of {h : Nat} {l : Hp} {A B C D : Int} (d0 : 0 < D) (d1 : D.natAbs < 2 ^ h) (a1 : A.natAbs < 2 ^ h) (b1 : B.natAbs < 2 ^ h) (c1 : C.natAbs < 2 ^ h) (ea : l.a * (D : Rat) = (A : Rat)) (eb : l.b * (D : Rat) = (B : Rat)) (ec : l.c * (D : Rat) = (C : Rat)) : Il h l :=
  ⟨A, B, C, D, d0, d1, a1, b1, c1, rat_of_mul (by omega) ea, rat_of_mul (by omega) eb, rat_of_mul (by omega) ec⟩
theorem pow_mono_lt {a m n : Nat} (h : a < 2 ^ m) (l : m ≤ n) : a < 2 ^ n := Nat.lt_of_lt_of_le h (Nat.pow_le_pow_right (by decide) l)
theorem il_span {D : Int} {n : Nat} {a b c d : Cn} (hD : 0 < D) (hn : D.natAbs < 2 ^ n) (ha : Wn D n a.m) (hb : Wn D n b.m) (hc : Wn D n c.m) (hd : Wn D n d.m) : ∀ l ∈ spanH a b c d, Il (3 * n + 5) l := by
  intro l hl
  have m : n ≤ 3 * n + 5 := by omega
  have z : ((0 : Int)).natAbs < 2 ^ (3 * n + 5) := Nat.two_pow_pos _
  have ng : ∀ {i : Int}, i.natAbs < 2 ^ n → (-i).natAbs < 2 ^ (3 * n + 5) := fun h => by rw [Int.natAbs_neg]; exact pow_mono_lt h m
  obtain ⟨A, ea, a1⟩ := ha
  obtain ⟨B, eb, b1⟩ := hb
  obtain ⟨C, ec, c1⟩ := hc
  obtain ⟨E, ed, d1⟩ := hd
  have e0 : ((0 : Int) : Rat) = 0 := rfl
  unfold spanH at hl
  simp only [List.mem_cons, List.not_mem_nil, or_false] at hl
  rcases hl with rfl | rfl | rfl | rfl
  · exact il_of (A := D) (B := 0) (C := -A) hD (pow_mono_lt hn m) (pow_mono_lt hn m) z (ng a1) (by show 1 * _ = _; grind) (by show 0 * _ = _; rw [e0]; grind) (by show (0 - a.m) * _ = _; rw [Rat.intCast_neg]; grind)
  · exact il_of (A := -D) (B := 0) (C := B) hD (pow_mono_lt hn m) (ng hn) z (pow_mono_lt b1 m) (by show -1 * _ = _; rw [Rat.intCast_neg]; grind) (by show 0 * _ = _; rw [e0]; grind) eb
  · exact il_of (A := 0) (B := D) (C := -C) hD (pow_mono_lt hn m) z (pow_mono_lt hn m) (ng c1) (by show 0 * _ = _; rw [e0]; grind) (by show 1 * _ = _; grind) (by show (0 - c.m) * _ = _; rw [Rat.intCast_neg]; grind)
  · exact il_of (A := 0) (B := -D) (C := E) hD (pow_mono_lt hn m) z (ng hn) (pow_mono_lt d1 m) (by show 0 * _ = _; rw [e0]; grind) (by show -1 * _ = _; rw [Rat.intCast_neg]; grind) ed
theorem il_win {D : Int} {n : Nat} {f g : Fl} (hD : 0 < D) (hn : D.natAbs < 2 ^ n) (hf : Wn D n f.w) (hg : Wn D n g.w) : ∀ l ∈ winH f g, Il (3 * n + 5) l := by
  intro l hl
  have m : n ≤ 3 * n + 5 := by omega
  have ng : ∀ {i : Int}, i.natAbs < 2 ^ n → (-i).natAbs < 2 ^ (3 * n + 5) := fun h => by rw [Int.natAbs_neg]; exact pow_mono_lt h m
  obtain ⟨A, ea, a1⟩ := hf
  obtain ⟨B, eb, b1⟩ := hg
  unfold winH at hl
  simp only [List.mem_cons, List.not_mem_nil, or_false] at hl
  rcases hl with rfl | rfl
  · exact il_of (A := D) (B := -D) (C := A) hD (pow_mono_lt hn m) (pow_mono_lt hn m) (ng hn) (pow_mono_lt a1 m) (by show 1 * _ = _; grind) (by show -1 * _ = _; rw [Rat.intCast_neg]; grind) ea
  · exact il_of (A := -D) (B := D) (C := B) hD (pow_mono_lt hn m) (ng hn) (pow_mono_lt hn m) (pow_mono_lt b1 m) (by show -1 * _ = _; rw [Rat.intCast_neg]; grind) (by show 1 * _ = _; grind) eb
theorem rate_mul {x y : Rat} {a b : Cn} (h : a.m < b.m) : rateR x y a b * (b.m - a.m) = y - x := Rat.div_mul_cancel (by grind)
theorem il_side {D : Int} {n : Nat} {x y u v r : Rat} {a b c d : Cn} (hD : 0 < D) (hn : D.natAbs < 2 ^ n) (ha : Wn D n a.m) (hb : Wn D n b.m) (hc : Wn D n c.m) (hd : Wn D n d.m) (hx : Wn D n x) (hy : Wn D n y) (hu : Wn D n u) (hv : Wn D n v) (hr : Wn D n r) (hab : a.m < b.m) (hcd : c.m < d.m) :
    ∀ l ∈ sideH x y u v r a b c d, Il (3 * n + 5) l := by
  intro l hl
  obtain ⟨A, ea, a1⟩ := ha
  obtain ⟨B, eb, b1⟩ := hb
  obtain ⟨C, ec, c1⟩ := hc
  obtain ⟨E, ed, d1⟩ := hd
  obtain ⟨X, ex, x1⟩ := hx
  obtain ⟨Y, ey, y1⟩ := hy
  obtain ⟨U, eu, u1⟩ := hu
  obtain ⟨V, ev, v1⟩ := hv
  obtain ⟨R, er, r1⟩ := hr
  have hDr : (0 : Rat) < (D : Rat) := Rat.intCast_pos.mpr hD
  have tp : 0 < B - A := by
    have h := Rat.mul_pos (show 0 < b.m - a.m by grind) hDr
    have e : (b.m - a.m) * (D : Rat) = ((B - A : Int) : Rat) := by rw [Rat.intCast_sub, ← ea, ← eb]; grind
    rw [e] at h
    exact Rat.intCast_pos.mp h
  have sp : 0 < E - C := by
    have h := Rat.mul_pos (show 0 < d.m - c.m by grind) hDr
    have e : (d.m - c.m) * (D : Rat) = ((E - C : Int) : Rat) := by rw [Rat.intCast_sub, ← ec, ← ed]; grind
    rw [e] at h
    exact Rat.intCast_pos.mp h
  have k1 := rate_mul (x := x) (y := y) hab
  have k2 := rate_mul (x := u) (y := v) hcd
  generalize hp : rateR x y a b = p at k1
  generalize hq : rateR u v c d = q at k2
  have f1 : p * ((B : Rat) - (A : Rat)) = (Y : Rat) - (X : Rat) := by
    rw [← eb, ← ea, ← ey, ← ex]
    have : p * (b.m - a.m) * (D : Rat) = (y - x) * (D : Rat) := by rw [k1]
    grind
  have f2 : q * ((E : Rat) - (C : Rat)) = (V : Rat) - (U : Rat) := by
    rw [← ed, ← ec, ← ev, ← eu]
    have : q * (d.m - c.m) * (D : Rat) = (v - u) * (D : Rat) := by rw [k2]
    grind
  have dt := natAbs_sub_lt b1 a1
  have ds := natAbs_sub_lt d1 c1
  have dx := natAbs_sub_lt y1 x1
  have dy := natAbs_sub_lt v1 u1
  have up : ∀ {i j k : Int} {s t w : Nat}, i.natAbs < 2 ^ s → j.natAbs < 2 ^ t → k.natAbs < 2 ^ w → s + t + w ≤ 3 * n + 2 → (i * j * k).natAbs < 2 ^ (3 * n + 2) := fun h1 h2 h3 h4 => pow_mono_lt (natAbs_mul_lt (natAbs_mul_lt h1 h2) h3) h4
  have ng : ∀ {i : Int} {m : Nat}, i.natAbs < 2 ^ m → (-i).natAbs < 2 ^ m := fun h => by rw [Int.natAbs_neg]; exact h
  have t1 := up hn dt ds (by omega)
  have t2 := up dx hn ds (by omega)
  have t3 := up dy hn dt (by omega)
  have t4 := up r1 dt ds (by omega)
  have t5 := up x1 dt ds (by omega)
  have t6 := up dx a1 ds (by omega)
  have t7 := up u1 dt ds (by omega)
  have t8 := up dy c1 dt (by omega)
  have m : 3 * n + 2 ≤ 3 * n + 5 := by omega
  have DD : 0 < D * (B - A) * (E - C) := Int.mul_pos (Int.mul_pos hD tp) sp
  have five : ∀ {i j k o p : Int}, i.natAbs < 2 ^ (3 * n + 2) → j.natAbs < 2 ^ (3 * n + 2) → k.natAbs < 2 ^ (3 * n + 2) → o.natAbs < 2 ^ (3 * n + 2) → p.natAbs < 2 ^ (3 * n + 2) → (i + j + k + o + p).natAbs < 2 ^ (3 * n + 5) := fun {i j k o p} h1 h2 h3 h4 h5 => by
    rw [show 3 * n + 5 = 3 * n + 2 + 3 by omega, Nat.pow_add]
    omega
  have cs : ∀ i j : Int, ((i - j : Int) : Rat) = (i : Rat) - (j : Rat) := fun i j => Rat.intCast_sub ..
  have cm : ∀ i j : Int, ((i * j : Int) : Rat) = (i : Rat) * (j : Rat) := fun i j => Rat.intCast_mul ..
  have ca : ∀ i j : Int, ((i + j : Int) : Rat) = (i : Rat) + (j : Rat) := fun i j => Rat.intCast_add ..
  have cn : ∀ i : Int, ((-i : Int) : Rat) = -(i : Rat) := fun i => Rat.intCast_neg ..
  unfold sideH at hl
  simp only [List.mem_cons, List.not_mem_nil, or_false, baseR, hp, hq] at hl
  rcases hl with rfl | rfl
  · refine il_of (A := -((Y - X) * D * (E - C))) (B := (V - U) * D * (B - A)) (C := R * (B - A) * (E - C) + -(X * (B - A) * (E - C)) + (Y - X) * A * (E - C) + U * (B - A) * (E - C) + -((V - U) * C * (B - A))) DD (pow_mono_lt t1 m) (pow_mono_lt (ng t2) m) (pow_mono_lt t3 m) (five t4 (ng t5) t6 t7 (ng t8)) ?_ ?_ ?_
    · show (0 - p) * _ = _
      simp only [cs, cm, ca, cn]
      grind
    · show q * _ = _
      simp only [cs, cm, ca, cn]
      grind
    · show (r - (x - p * a.m - (u - q * c.m))) * _ = _
      simp only [cs, cm, ca, cn]
      grind
  · refine il_of (A := (Y - X) * D * (E - C)) (B := -((V - U) * D * (B - A))) (C := R * (B - A) * (E - C) + X * (B - A) * (E - C) + -((Y - X) * A * (E - C)) + -(U * (B - A) * (E - C)) + (V - U) * C * (B - A)) DD (pow_mono_lt t1 m) (pow_mono_lt t2 m) (pow_mono_lt (ng t3) m) (five t4 t5 (ng t6) (ng t7) t8) ?_ ?_ ?_
    · show p * _ = _
      simp only [cs, cm, ca, cn]
      grind
    · show (0 - q) * _ = _
      simp only [cs, cm, ca, cn]
      grind
    · show (r + (x - p * a.m - (u - q * c.m))) * _ = _
      simp only [cs, cm, ca, cn]
      grind
/-- all twelve lines of two pieces -/
theorem il_lin12 {D : Int} {n : Nat} {f g : Fl} {p q : Rat} {a b c d : Cn} (hD : 0 < D) (hn : D.natAbs < 2 ^ n) (hf : Gok D n f) (hg : Gok D n g) (hp : Wn D n (rch f g p)) (hq : Wn D n (rchV f g q)) (ha : a ∈ f.cs) (hb : b ∈ f.cs) (hc : c ∈ g.cs) (hd : d ∈ g.cs) (hab : a.m < b.m) (hcd : c.m < d.m) : ∀ l ∈ lin12 f g p q a b c d, Il (3 * n + 5) l := by
  intro l hl
  obtain ⟨a0, a1, a2, a3⟩ := hf.c a ha
  obtain ⟨b0, b1, b2, b3⟩ := hf.c b hb
  obtain ⟨c0, c1, c2, c3⟩ := hg.c c hc
  obtain ⟨d0, d1, d2, d3⟩ := hg.c d hd
  unfold lin12 restH at hl
  simp only [List.mem_append] at hl
  rcases hl with h | h | h | h | h
  · exact il_span hD hn a0 b0 c0 d0 l h
  · exact il_win hD hn hf.w hg.w l h
  · exact il_side hD hn a0 b0 c0 d0 a1 b1 c1 d1 hp hab hcd l h
  · exact il_side hD hn a0 b0 c0 d0 a2 b2 c2 d2 hp hab hcd l h
  · exact il_side hD hn a0 b0 c0 d0 a3 b3 c3 d3 hq hab hcd l h

theorem cutBy_len : ∀ {ls : List Hp} {P : List Pt}, (cutBy P ls).length ≤ 2 ^ ls.length * P.length
  | [], P => by show P.length ≤ 1 * P.length; omega
  | l :: ls, P => by
    have h1 := cutBy_len (ls := ls) (P := cutP P l)
    have h2 := cutP_len (P := P) (l := l)
    show (cutBy (cutP P l) ls).length ≤ _
    rw [List.length_cons, Nat.pow_succ, Nat.mul_assoc]
    exact Nat.le_trans h1 (Nat.mul_le_mul_left _ h2)
theorem cutby_wC {k h : Nat} {Ls ls : List Hp} {P : List Pt} {st : Mem} {Q : WQ} (hL : ∀ l ∈ Ls, Il h l) (hR : Ring Ls P) (hs : ∀ l ∈ ls, l ∈ Ls) (hn : ls.length ≤ 8) (hP : P.length ≤ 4) (hb : 27 * h + 20 < 8900) (q : Q (.val (.list ((cutBy P ls).map XD))) st) : wC (callN pr (k + 7)) i_cut_by [.val (.list (P.map XD)), .val (.list (ls.map HD))] st Q := by
  refine wc_call P_cut_by rfl ?_
  repeat' left
  refine ws_forX HD (wi_seq ?_)
  repeat' left
  refine ⟨rfl, fun done _ r s => (∃ a2, r = [some (.val (.list ((cutBy P done).map XD))), some (.val (.list (ls.map HD))), a2]) ∧ s = st, ⟨⟨_, rfl⟩, rfl⟩, ?_, ?_⟩
  · rintro r s ⟨⟨a2, rfl⟩, rfl⟩
    repeat' left
    exact wd_same q
  rintro done l todo r s e1 ⟨⟨a2, rfl⟩, rfl⟩
  have hl : l ∈ Ls := hs l (by rw [e1]; simp)
  have hd : ∀ m ∈ done, m ∈ Ls := fun m hm => hs m (by rw [e1]; exact List.mem_append_left _ hm)
  have hdl : done.length < 8 := by rw [e1, List.length_append, List.length_cons] at hn; omega
  have hR' := cutBy_ring (ls := done) hR hd
  have hlen : (cutBy P done).length ≤ 5000 := by
    have h1 := cutBy_len (ls := done) (P := P)
    have h2 : 2 ^ done.length ≤ 2 ^ 7 := Nat.pow_le_pow_right (by decide) (by omega)
    have h3 : 2 ^ done.length * P.length ≤ 2 ^ 7 * 4 := Nat.mul_le_mul h2 hP
    omega
  repeat' left
  refine cut_wC (hL l hl).zl (fun p hp => vx_sz hL (hR'.v p hp)) hlen (by omega) ?_
  repeat' left
  have e : cutP (cutBy P done) l = cutBy P (done ++ [l]) := by unfold cutBy; rw [List.foldl_append]; rfl
  rw [e]
  exact ⟨⟨_, rfl⟩, rfl⟩
theorem sumP_sz {S : Nat} : ∀ {t : List Pt} {p : Pt} {m : Nat}, Zp m p → (∀ x ∈ t, Zp S x) → Zp (m + t.length * (S + 1)) (t.foldl addP p)
  | [], p, m, h, _ => h.mono (by simp)
  | x :: t, p, m, h, ht => by
    have hx := ht x (by simp)
    have h2 : Zp (m + S + 1) (addP p x) := ⟨sz_add h.x hx.x, sz_add h.y hx.y⟩
    exact (sumP_sz (t := t) h2 fun y hy => ht y (by simp [hy])).mono (by rw [List.length_cons, Nat.succ_mul]; omega)
theorem sz_len {n : Nat} (h1 : 0 < n) (h2 : n ≤ 8) : Sz 4 (((1 : Int) : Rat) / ((n : Int) : Rat)) := sz_part (by omega) (by decide) (by omega)
theorem mid_wC {k S : Nat} {ps : List Pt} {w : W} {st : Mem} {Q : WQ} (hw : Rd st w (.list (ps.map XD))) (hne : ps ≠ []) (hps : ∀ p ∈ ps, Zp S p) (hn : ps.length ≤ 8) (hb : 9 * S + 40 < 8900) (q : Q (.val (XD (midP ps))) st) : wC (callN pr (k + 4)) i_middle_of [w] st Q := by
  cases ps with
  | nil => exact absurd rfl hne
  | cons p t =>
    have z0 := hps p (by simp)
    have ht : ∀ x ∈ t, Zp S x := fun x hx => hps x (by simp [hx])
    have hl : 0 < (p :: t).length := by simp
    have s1 := sz_len hl hn
    rw [List.length_cons] at hn
    have eL : (((p :: t).map XD).length : Int) = ((p :: t).length : Int) := by rw [List.length_map]
    refine wc_call P_middle_of rfl ?_
    repeat' left
    rw [eL]
    refine part_wC (n := 4) (by rw [List.length_cons]; omega) (by decide) (by rw [List.length_cons]; omega) (by decide) ?_
    repeat' left
    refine wx_is idx_zero ?_
    repeat' left
    refine ws_forX XD (wi_seq ?_)
    repeat' left
    rw [cut_tail, List.map_cons, List.tail_cons]
    refine ⟨t, rfl, rfl, fun done _ r s => (∃ a3 a4 a5 a6, r = [some w, some (.val (F (((1 : Int) : Rat) / (((p :: t).length : Int) : Rat)))), some (.val (XD (done.foldl addP p))), a3, a4, a5, a6]) ∧ s = st, ⟨⟨_, _, _, _, rfl⟩, rfl⟩, ?_, ?_⟩
    · rintro r s ⟨⟨a3, a4, a5, a6, rfl⟩, rfl⟩
      have sz := sumP_sz (t := t) z0 ht
      have hm : t.length * (S + 1) ≤ 7 * (S + 1) := Nat.mul_le_mul_right _ (by omega)
      have sx : Sz (8 * S + 8) (t.foldl addP p).1 := sz.x.mono (by omega)
      have sy : Sz (8 * S + 8) (t.foldl addP p).2 := sz.y.mono (by omega)
      repeat' left
      refine wf_lcU (wi_seq ?_)
      repeat' left
      exact wd_same q
    rintro done x todo r s e1 ⟨⟨a3, a4, a5, a6, rfl⟩, rfl⟩
    have hx := ht x (by rw [e1]; simp)
    have hdt : ∀ y ∈ done, Zp S y := fun y hy => ht y (by rw [e1]; simp [hy])
    have hdl : done.length ≤ 6 := by rw [e1, List.length_append, List.length_cons] at hn; omega
    have sz := sumP_sz (t := done) z0 hdt
    have hm : done.length * (S + 1) ≤ 6 * (S + 1) := Nat.mul_le_mul_right _ hdl
    have sx : Sz (7 * S + 7) (done.foldl addP p).1 := sz.x.mono (by omega)
    have sy : Sz (7 * S + 7) (done.foldl addP p).2 := sz.y.mono (by omega)
    have x1 := hx.x
    have x2 := hx.y
    repeat' left
    refine wf_lcU (wi_zip ?_)
    repeat' left
    have e : XD ((done ++ [x]).foldl addP p) = .tuple [F ((done.foldl addP p).1 + x.1), F ((done.foldl addP p).2 + x.2)] := by
      rw [List.foldl_append]; rfl
    exact ⟨⟨_, _, _, _, by rw [e]; rfl⟩, rfl⟩

def oX : Option Pt → PyData
  | none => .none
  | some x => XD x
theorem pick_app {P : List Pt} : ∀ {A B : List Hp}, pickP P (A ++ B) = (pickP P A).bind fun xs => (pickP P B).map (xs ++ ·)
  | [], B => by
    show pickP P B = (some []).bind _
    cases h : pickP P B <;> rfl
  | a :: A, B => by
    rw [List.cons_append, pickP, pick_app, pickP]
    cases P.find? fun x => decide (0 < a.wt x) with
    | none => rfl
    | some x =>
      simp only [Option.bind_some]
      cases pickP P A with
      | none => rfl
      | some xs =>
        simp only [Option.bind_some, Option.map_some]
        cases pickP P B <;> rfl
theorem inner_wC {k L S : Nat} {P : List Pt} {ls : List Hp} {st : Mem} {Q : WQ} (hL : ∀ l ∈ ls, Zl L l) (hP : ∀ p ∈ P, Zp S p) (hn : 0 < ls.length) (hn8 : ls.length ≤ 8) (hPl : P.length ≤ 100000) (hb : 3 * L + 9 * S + 40 < 8900) (q : Q (.val (oX (innerP P ls))) st) : wC (callN pr (k + 6)) i_inner_point [.val (.list (P.map XD)), .val (.list (ls.map HD))] st Q := by
  refine wc_call P_inner_point rfl ?_
  repeat' left
  refine ws_forX HD (wi_seq ?_)
  repeat' left
  refine ⟨rfl, fun done _ r s => (∃ found a3 a4 a5, r = [some (.val (.list (P.map XD))), some (.val (.list (ls.map HD))), some (.loc st.length), a3, a4, a5] ∧ s = st ++ [(true, found.map XD)] ∧ pickP P done = some found) ∧ True, ⟨⟨[], _, _, _, rfl, rfl, rfl⟩, trivial⟩, ?_, ?_⟩
  · rintro r s ⟨⟨found, a3, a4, a5, rfl, rfl, hp⟩, _⟩
    obtain ⟨f1, f2, f3⟩ := pick_is hp
    have e : innerP P ls = some (midP found) := by unfold innerP; rw [hp]; rfl
    rw [e] at q
    repeat' left
    refine mid_wC (S := S) (rd_end rfl) (fun e => by rw [e] at f1; simp at f1; omega) (fun x hx => hP x (f2 x hx)) (by omega) (by omega) ?_
    repeat' left
    exact q
  rintro done l todo r s e1 ⟨⟨found, a3, a4, a5, rfl, rfl, hp⟩, _⟩
  have hl := hL l (by rw [e1]; simp)
  have hdl : done.length ≤ 7 := by rw [e1, List.length_append, List.length_cons] at hn8; omega
  obtain ⟨f1, _, _⟩ := pick_is hp
  repeat' left
  refine wf_lcP XD XD (fun x => decide (0 < l.wt x)) P (wi_seq ?_)
  repeat' left
  refine ⟨rfl, fun x hx => ?_, ?_⟩
  · have w := wt_sz hl (hP x hx)
    repeat' left
    refine worth_wC hl (hP x hx) (by omega) ?_
    repeat' left
    · exact ⟨rfl, rfl, fun _ => by
        repeat' left
        exact ⟨rfl, rfl⟩⟩
  have hf : P.find? (fun x => decide (0 < l.wt x)) = (P.filter fun x => decide (0 < l.wt x)).head? := List.head?_filter.symm
  cases hh : P.filter fun x => decide (0 < l.wt x) with
  | nil =>
    have e : innerP P ls = none := by
      unfold innerP
      rw [e1, pick_app, hp, Option.bind_some, pickP, hf, hh]
      rfl
    rw [e] at q
    repeat' left
    exact q
  | cons y ys =>
    have e2 : pickP P (done ++ [l]) = some (found ++ [y]) := by
      rw [pick_app, hp, Option.bind_some, pickP, hf, hh]
      rfl
    have hfl : found.length ≤ 7 := by omega
    repeat' left
    refine wx_is idx_zero ?_
    repeat' left
    exact ⟨⟨found ++ [y], _, _, _, rfl, by rw [List.map_append]; rfl, e2⟩, trivial⟩



local macro_rules | `(tactic| left) => `(tactic| first | refine wx_is (by assumption) ?_ | refine wbl_is (by assumption) ?_)

/-! ### flights as data -/
def sdC (c : Cn) (j : Int) : Rat := if j = 0 then c.x else if j = 1 then c.y else c.z
structure CnD (e : PyData) (c : Cn) : Prop where
  m : idxD e (.int 0) = some (F c.m)
  s : ∀ j : Int, j = 0 ∨ j = 1 ∨ j = 2 → idxD e (.int (1 + j)) = some (F (sdC c j))
structure PlD (y : PyData) (cs : List Cn) : Prop where
  at' : ∀ (i : Nat) (c : Cn), cs[i]? = some c → ∃ e, idxD y (.int i) = some e ∧ CnD e c
  len : bltD .len [y] = some (.int cs.length)
structure FlD (x y b : PyData) (f : Fl) : Prop where
  py : idxD x (.int 0) = some y
  pb : idxD x (.int 1) = some b
  pl : PlD y f.cs
  u : idxD b (.int 0) = some (F f.u)
  v : idxD b (.int 1) = some (F f.v)
  w : idxD b (.int 2) = some (F f.w)
structure ApD (a : PyData) (p q : Rat) : Prop where
  p : idxD a (.int 0) = some (F p)
  q : idxD a (.int 1) = some (F q)
theorem cnD_C {c : Cn} : CnD (C c) c := ⟨rfl, fun j hj => by rcases hj with rfl | rfl | rfl <;> rfl⟩
theorem cnD_CL {c : Cn} : CnD (CL c) c := ⟨rfl, fun j hj => by rcases hj with rfl | rfl | rfl <;> rfl⟩
theorem plD_T {cs : List Cn} : PlD (.tuple (cs.map C)) cs := ⟨fun i c h => ⟨_, idx_getT h, cnD_C⟩, by simp [bltD]⟩
theorem plD_L {cs : List Cn} : PlD (.list (cs.map CL)) cs := ⟨fun i c h => ⟨_, idx_get h, cnD_CL⟩, by simp [bltD]⟩
theorem flD_T {f : Fl} : FlD (.tuple [.tuple (f.cs.map C), .tuple [F f.u, F f.v, F f.w]]) (.tuple (f.cs.map C)) (.tuple [F f.u, F f.v, F f.w]) f := ⟨rfl, rfl, plD_T, rfl, rfl, rfl⟩
theorem flD_L {f : Fl} : FlD (.list [.list (f.cs.map CL), .list [F f.u, F f.v, F f.w]]) (.list (f.cs.map CL)) (.list [F f.u, F f.v, F f.w]) f := ⟨rfl, rfl, plD_L, rfl, rfl, rfl⟩
theorem apD_T {p q : Rat} : ApD (.tuple [F p, F q]) p q := ⟨rfl, rfl⟩
theorem apD_L {p q : Rat} : ApD (.list [F p, F q]) p q := ⟨rfl, rfl⟩
/-- two corners of a plan, the i-th and the next -/
structure Pc (y : PyData) (cs : List Cn) (i : Nat) (a b : Cn) (ea eb : PyData) : Prop where
  ia : idxD y (.int i) = some ea
  ib : idxD y (.int ((i : Int) + 1)) = some eb
  ca : CnD ea a
  cb : CnD eb b
  ma : a ∈ cs
  mb : b ∈ cs
theorem PlD.pc {y : PyData} {cs : List Cn} {i : Nat} {a b : Cn} (h : PlD y cs) (ha : cs[i]? = some a) (hb : cs[i + 1]? = some b) : ∃ ea eb, Pc y cs i a b ea eb := by
  obtain ⟨ea, e1, c1⟩ := h.at' i a ha
  obtain ⟨eb, e2, c2⟩ := h.at' (i + 1) b hb
  exact ⟨ea, eb, e1, e2, c1, c2, List.mem_of_getElem? ha, List.mem_of_getElem? hb⟩
theorem square_wC {k : Nat} {b e lo hi : Rat} {st : Mem} {Q : WQ} (q : Q (.val (.list ((sqP b e lo hi).map XD))) st) : wC (callN pr (k + 1)) i_square_of [.val (F b), .val (F e), .val (F lo), .val (F hi)] st Q := by
  refine wc_call P_square_of rfl ?_
  repeat' left
  exact wd_same q
theorem psquare_wC {k i j : Nat} {x x' y y' bd bd' ea eb ec ed : PyData} {f g : Fl} {a b c d : Cn} {st : Mem} {Q : WQ} (hf : FlD x y bd f) (hg : FlD x' y' bd' g) (h1 : Pc y f.cs i a b ea eb) (h2 : Pc y' g.cs j c d ec ed)
    (q : Q (.val (.list ((sqP a.m b.m c.m d.m).map XD))) st) : wC (callN pr (k + 2)) i_piece_square [.val x, .val x', .val (.int i), .val (.int j)] st Q := by
  have f1 := hf.py
  have f2 := hg.py
  have f3 := h1.ia
  have f4 := h1.ib
  have f5 := h2.ia
  have f6 := h2.ib
  have f7 := h1.ca.m
  have f8 := h1.cb.m
  have f9 := h2.ca.m
  have f10 := h2.cb.m
  refine wc_call P_piece_square rfl ?_
  repeat' left
  refine square_wC ?_
  repeat' left
  exact wd_same q
theorem spans_wC {k i j N : Nat} {x x' y y' bd bd' ea eb ec ed : PyData} {f g : Fl} {a b c d : Cn} {st : Mem} {Q : WQ} (hf : FlD x y bd f) (hg : FlD x' y' bd' g) (h1 : Pc y f.cs i a b ea eb) (h2 : Pc y' g.cs j c d ec ed) (sa : Sz N a.m) (sc : Sz N c.m) (hN : N < 3000)
    (q : Q (.val (.list ((spanH a b c d).map HD))) st) : wC (callN pr (k + 4)) i_span_lines [.val x, .val x', .val (.int i), .val (.int j)] st Q := by
  have f1 := hf.py
  have f2 := hg.py
  have f3 := h1.ia
  have f4 := h1.ib
  have f5 := h2.ia
  have f6 := h2.ib
  have f7 := h1.ca.m
  have f8 := h1.cb.m
  have f9 := h2.ca.m
  have f10 := h2.cb.m
  refine wc_call P_span_lines rfl ?_
  repeat' left
  exact wd_same q
theorem wins_wC {k : Nat} {x x' y y' bd bd' : PyData} {f g : Fl} {st : Mem} {Q : WQ} (hf : FlD x y bd f) (hg : FlD x' y' bd' g) (q : Q (.val (.list ((winH f g).map HD))) st) : wC (callN pr (k + 1)) i_window_lines [.val x, .val x'] st Q := by
  have f1 := hf.pb
  have f2 := hg.pb
  have f3 := hf.w
  have f4 := hg.w
  refine wc_call P_window_lines rfl ?_
  repeat' left
  exact wd_same q
def rchJ (f g : Fl) (p q : Rat) (j : Int) : Rat := if j = 2 then rchV f g q else rch f g p
theorem rreach_wC {k N : Nat} {x x' y y' bd bd' z : PyData} {f g : Fl} {p q : Rat} {j : Int} {st : Mem} {Q : WQ} (hf : FlD x y bd f) (hg : FlD x' y' bd' g) (ha : ApD z p q) (hj : j = 0 ∨ j = 1 ∨ j = 2) (hN : N < 2000) (s1 : Sz N f.u) (s2 : Sz N f.v) (s3 : Sz N g.u) (s4 : Sz N g.v) (s5 : Sz N p) (s6 : Sz N q)
    (h : Q (.val (F (rchJ f g p q j))) st) : wC (callN pr (k + 4)) i_reach_of [.val x, .val x', .val z, .val (.int j)] st Q := by
  have f1 := hf.pb
  have f2 := hg.pb
  have f3 := hf.u
  have f4 := hg.u
  have f5 := hf.v
  have f6 := hg.v
  have f7 := ha.p
  have f8 := ha.q
  unfold rchJ rch rchV at h
  rcases hj with rfl | rfl | rfl <;>
  · refine wc_call P_reach_of rfl ?_
    repeat' left
    exact wd_same h
theorem piece_wC {k i N : Nat} {y ea eb : PyData} {cs : List Cn} {a b : Cn} {j : Int} {st : Mem} {Q : WQ} (hy : Pc y cs i a b ea eb) (hj : j = 0 ∨ j = 1 ∨ j = 2) (hab : a.m < b.m) (sa : Sz N a.m) (sb : Sz N b.m) (s1 : Sz N (sdC a j)) (s2 : Sz N (sdC b j)) (hN : N < 1000)
    (h : Q (.val (.tuple [F (rateR (sdC a j) (sdC b j) a b), F (baseR (sdC a j) (sdC b j) a b)])) st) : wC (callN pr (k + 4)) i_piece_line [.val y, .val (.int i), .val (.int j)] st Q := by
  have f1 := hy.ia
  have f2 := hy.ib
  have f3 := hy.ca.m
  have f4 := hy.cb.m
  have f5 := hy.ca.s j hj
  have f6 := hy.cb.s j hj
  have hne : b.m - a.m ≠ 0 := by grind
  have sr : Sz (4 * N + 2) (rateR (sdC a j) (sdC b j) a b) := (sz_div (sz_sub s2 s1) (sz_sub sb sa) hne).mono (by omega)
  refine wc_call P_piece_line rfl ?_
  repeat' left
  unfold rateR at sr
  repeat' left
  exact wd_same h
theorem sides_wC {k i i' N H : Nat} {x x' y y' bd bd' z ea eb ec ed : PyData} {f g : Fl} {p q : Rat} {a b c d : Cn} {j : Int} {st : Mem} {Q : WQ} (hf : FlD x y bd f) (hg : FlD x' y' bd' g) (ha : ApD z p q) (h1 : Pc y f.cs i a b ea eb) (h2 : Pc y' g.cs i' c d ec ed) (hj : j = 0 ∨ j = 1 ∨ j = 2) (hab : a.m < b.m) (hcd : c.m < d.m)
    (hN : N < 300) (hH : H < 400) (u1 : Sz N f.u) (u2 : Sz N f.v) (u3 : Sz N g.u) (u4 : Sz N g.v) (u5 : Sz N p) (u6 : Sz N q) (c1 : Cz N a) (c2 : Cz N b) (c3 : Cz N c) (c4 : Cz N d) (r1 : Sz H (rateR (sdC a j) (sdC b j) a b)) (r2 : Sz H (rateR (sdC c j) (sdC d j) c d))
    (h : Q (.val (.list ((sideH (sdC a j) (sdC b j) (sdC c j) (sdC d j) (rchJ f g p q j) a b c d).map HD))) st) : wC (callN pr (k + 5)) i_side_lines [.val x, .val x', .val z, .val (.tuple [.int i, .int i']), .val (.int j)] st Q := by
  have f1 := hf.py
  have f2 := hg.py
  have cs : ∀ {e : Cn}, Cz N e → Sz N (sdC e j) := fun h => by
    unfold sdC
    split
    · exact h.2.1
    · split
      · exact h.2.2.1
      · exact h.2.2.2
  have sr : Sz (3 * N + 2) (rchJ f g p q j) := by
    unfold rchJ rch rchV
    split
    · exact (sz_add u6 (sz_add u2 u4)).mono (by omega)
    · exact (sz_add u5 (sz_add u1 u3)).mono (by omega)
  have b1 : Sz (2 * N + H + 1) (baseR (sdC a j) (sdC b j) a b) := (sz_sub (cs c1) (sz_mul r1 c1.1)).mono (by omega)
  have b2 : Sz (2 * N + H + 1) (baseR (sdC c j) (sdC d j) c d) := (sz_sub (cs c3) (sz_mul r2 c3.1)).mono (by omega)
  refine wc_call P_side_lines rfl ?_
  repeat' left
  refine piece_wC h1 hj hab c1.1 c2.1 (cs c1) (cs c2) (by omega) ?_
  repeat' left
  refine piece_wC h2 hj hcd c3.1 c4.1 (cs c3) (cs c4) (by omega) ?_
  repeat' left
  refine rreach_wC hf hg ha hj (by omega) u1 u2 u3 u4 u5 u6 ?_
  repeat' left
  exact wd_same h

/-- two flights and a distance as they are handed in, and how great their numbers are -/
structure Tw (D : Int) (n : Nat) (x x' y y' bd bd' z : PyData) (f g : Fl) (p q : Rat) : Prop where
  hf : FlD x y bd f
  hg : FlD x' y' bd' g
  ha : ApD z p q
  D0 : 0 < D
  Dn : D.natAbs < 2 ^ n
  gf : Gok D n f
  gg : Gok D n g
  wp : Wn D n p
  wq : Wn D n q
  wr : Wn D n (rch f g p)
  wv : Wn D n (rchV f g q)
  n100 : n ≤ 100
section
variable {D : Int} {n : Nat} {x x' y y' bd bd' z : PyData} {f g : Fl} {p q : Rat}
theorem Tw.s (t : Tw D n x x' y y' bd bd' z f g p q) {r : Rat} (h : Wn D n r) : Sz n r := h.sz t.D0 t.Dn
theorem Tw.cf (t : Tw D n x x' y y' bd bd' z f g p q) {c : Cn} (h : c ∈ f.cs) : Cz n c := by
  obtain ⟨h1, h2, h3, h4⟩ := t.gf.c c h
  exact ⟨t.s h1, t.s h2, t.s h3, t.s h4⟩
theorem Tw.cg (t : Tw D n x x' y y' bd bd' z f g p q) {c : Cn} (h : c ∈ g.cs) : Cz n c := by
  obtain ⟨h1, h2, h3, h4⟩ := t.gg.c c h
  exact ⟨t.s h1, t.s h2, t.s h3, t.s h4⟩
theorem Tw.il (t : Tw D n x x' y y' bd bd' z f g p q) {a b c d : Cn} (ha : a ∈ f.cs) (hb : b ∈ f.cs) (hc : c ∈ g.cs) (hd : d ∈ g.cs) (hab : a.m < b.m) (hcd : c.m < d.m) : ∀ l ∈ lin12 f g p q a b c d, Il (3 * n + 5) l :=
  il_lin12 t.D0 t.Dn t.gf t.gg t.wr t.wv ha hb hc hd hab hcd
theorem side_at {f g : Fl} {p q : Rat} {a b c d : Cn} {j : Int} (hj : j = 0 ∨ j = 1 ∨ j = 2) : ∀ l ∈ sideH (sdC a j) (sdC b j) (sdC c j) (sdC d j) (rchJ f g p q j) a b c d, l ∈ lin12 f g p q a b c d := by
  intro l hl
  unfold lin12 restH
  simp only [List.mem_append]
  rcases hj with rfl | rfl | rfl
  · exact .inr (.inr (.inl hl))
  · exact .inr (.inr (.inr (.inl hl)))
  · exact .inr (.inr (.inr (.inr hl)))
theorem twelve_wC {k i i' : Nat} {ea eb ec ed : PyData} {a b c d : Cn} {st : Mem} {Q : WQ} (t : Tw D n x x' y y' bd bd' z f g p q) (h1 : Pc y f.cs i a b ea eb) (h2 : Pc y' g.cs i' c d ec ed) (hab : a.m < b.m) (hcd : c.m < d.m)
    (h : Q (.val (.list ((lin12 f g p q a b c d).map HD))) st) : wC (callN pr (k + 6)) i_twelve_lines [.val x, .val x', .val z, .val (.int i), .val (.int i')] st Q := by
  have n100 := t.n100
  have ca := t.cf h1.ma
  have cb := t.cf h1.mb
  have cc := t.cg h2.ma
  have cd := t.cg h2.mb
  have il := t.il h1.ma h1.mb h2.ma h2.mb hab hcd
  have rt : ∀ j : Int, j = 0 ∨ j = 1 ∨ j = 2 → Sz (3 * n + 5) (rateR (sdC a j) (sdC b j) a b) ∧ Sz (3 * n + 5) (rateR (sdC c j) (sdC d j) c d) := fun j hj => by
    have e1 := (il _ (side_at hj ⟨rateR (sdC a j) (sdC b j) a b, 0 - rateR (sdC c j) (sdC d j) c d, rchJ f g p q j + (baseR (sdC a j) (sdC b j) a b - baseR (sdC c j) (sdC d j) c d)⟩ (by simp [sideH]))).zl.a
    have e2 := (il _ (side_at hj ⟨0 - rateR (sdC a j) (sdC b j) a b, rateR (sdC c j) (sdC d j) c d, rchJ f g p q j - (baseR (sdC a j) (sdC b j) a b - baseR (sdC c j) (sdC d j) c d)⟩ (by simp [sideH]))).zl.b
    exact ⟨e1, e2⟩
  have side : ∀ {k : Nat} {st : Mem} {Q : WQ} (j : Int), (j = 0 ∨ j = 1 ∨ j = 2) → Q (.val (.list ((sideH (sdC a j) (sdC b j) (sdC c j) (sdC d j) (rchJ f g p q j) a b c d).map HD))) st → wC (callN pr (k + 5)) i_side_lines [.val x, .val x', .val z, .val (.tuple [.int i, .int i']), .val (.int j)] st Q := fun j hj h =>
    sides_wC (N := n) (H := 3 * n + 5) t.hf t.hg t.ha h1 h2 hj hab hcd (by omega) (by omega) (t.s t.gf.u) (t.s t.gf.v) (t.s t.gg.u) (t.s t.gg.v) (t.s t.wp) (t.s t.wq) ca cb cc cd (rt j hj).1 (rt j hj).2 h
  refine wc_call P_twelve_lines rfl ?_
  refine wss_cons (ws_new (wf_cat ?_))
  repeat' left
  refine spans_wC (N := n) t.hf t.hg h1 h2 ca.1 cc.1 (by omega) ?_
  repeat' left
  refine wins_wC t.hf t.hg ?_
  repeat' left
  refine ws_forU (wi_rng1 ?_)
  repeat' left
  refine ⟨by decide, ?_⟩
  rw [rng3]
  repeat' left
  refine side 0 (by decide) ?_
  repeat' left
  refine wxt_end rfl (by simp [sideH, spanH, winH, lineN]) ?_
  repeat' left
  refine side 1 (by decide) ?_
  repeat' left
  refine wxt_end rfl (by simp [sideH, spanH, winH, lineN]) ?_
  repeat' left
  refine side 2 (by decide) ?_
  repeat' left
  refine wxt_end rfl (by simp [sideH, spanH, winH, lineN]) ?_
  repeat' left
  have e : (spanH a b c d).map HD ++ (winH f g).map HD ++ (sideH (sdC a 0) (sdC b 0) (sdC c 0) (sdC d 0) (rchJ f g p q 0) a b c d).map HD ++ (sideH (sdC a 1) (sdC b 1) (sdC c 1) (sdC d 1) (rchJ f g p q 1) a b c d).map HD ++ (sideH (sdC a 2) (sdC b 2) (sdC c 2) (sdC d 2) (rchJ f g p q 2) a b c d).map HD = (lin12 f g p q a b c d).map HD := by
    unfold lin12 restH
    simp only [List.map_append, List.append_assoc]
    rfl
  rw [← e] at h
  exact h
def farO (f g : Fl) (a b c d : Cn) : PyData := if 0 < 0 - a.m + d.m + g.w then (if 0 < b.m + (0 - c.m) + f.w then .none else .tuple [.int 1, .int 2, .int 4]) else .tuple [.int 0, .int 3, .int 5]
theorem farO_is {f g : Fl} {a b c d : Cn} : (farB f g a b c d = true → ∃ x, farO f g a b c d = .tuple x) ∧ (farB f g a b c d = false → farO f g a b c d = .none) := by
  unfold farB farO
  by_cases h1 : 0 < 0 - a.m + d.m + g.w <;> by_cases h2 : 0 < b.m + (0 - c.m) + f.w <;> simp [h1, h2]
theorem idx_ds {ds : List PyData} {i : Nat} {d : PyData} (h : ds[i]? = some d) : idxD (.list ds) (.int i) = some d := by
  have := idx_get (f := id) (xs := ds) (i := i) (y := d) h
  simpa using this
theorem far_wC {k i i' : Nat} {ea eb ec ed : PyData} {a b c d : Cn} {st : Mem} {Q : WQ} (t : Tw D n x x' y y' bd bd' z f g p q) (h1 : Pc y f.cs i a b ea eb) (h2 : Pc y' g.cs i' c d ec ed) (rest : List PyData) (h : Q (.val (farO f g a b c d)) st) :
    wC (callN pr (k + 4)) i_far_numbers [.val (.list ((spanH a b c d).map HD ++ ((winH f g).map HD ++ rest)))] st Q := by
  have n100 := t.n100
  have ca := (t.cf h1.ma).1
  have cb := (t.cf h1.mb).1
  have cc := (t.cg h2.ma).1
  have cd := (t.cg h2.mb).1
  have fw := t.s t.gf.w
  have gw := t.s t.gg.w
  have z0 : ∀ x : Rat, 0 + x = x := fun x => Rat.zero_add x
  have i0 : idxD (.list ((spanH a b c d).map HD ++ ((winH f g).map HD ++ rest))) (.int 0) = some (.tuple [F 1, F 0, F (0 - a.m)]) := idx_ds (i := 0) rfl
  have i1 : idxD (.list ((spanH a b c d).map HD ++ ((winH f g).map HD ++ rest))) (.int 1) = some (.tuple [F (-1), F 0, F b.m]) := idx_ds (i := 1) rfl
  have i2 : idxD (.list ((spanH a b c d).map HD ++ ((winH f g).map HD ++ rest))) (.int 2) = some (.tuple [F 0, F 1, F (0 - c.m)]) := idx_ds (i := 2) rfl
  have i3 : idxD (.list ((spanH a b c d).map HD ++ ((winH f g).map HD ++ rest))) (.int 3) = some (.tuple [F 0, F (-1), F d.m]) := idx_ds (i := 3) rfl
  have i4 : idxD (.list ((spanH a b c d).map HD ++ ((winH f g).map HD ++ rest))) (.int 4) = some (.tuple [F 1, F (-1), F f.w]) := idx_ds (i := 4) rfl
  have i5 : idxD (.list ((spanH a b c d).map HD ++ ((winH f g).map HD ++ rest))) (.int 5) = some (.tuple [F (-1), F 1, F g.w]) := idx_ds (i := 5) rfl
  generalize (spanH a b c d).map HD ++ ((winH f g).map HD ++ rest) = L at *
  unfold farO at h
  refine wc_call P_far_numbers rfl ?_
  repeat' left
  refine ws_forU (wi_seq ?_)
  repeat' left
  refine ws_forU (wi_seq ?_)
  repeat' left
  · rename_i g1
    simp only [z0] at g1
    rw [if_neg g1] at h
    exact wd_same h
  · rename_i g1
    simp only [z0] at g1
    rw [if_pos g1] at h
    show wS _ _ [some (.val (.list L)), some (.val (.tuple [.int 1, .int 2, .int 4])), some (.val (.tuple [.int 0, .int 1])), some (.val (.int 5))] _ _
    refine ws_forU (wi_seq ?_)
    repeat' left
    · rename_i g2
      simp only [z0] at g2
      rw [if_neg g2] at h
      exact wd_same h
    · rename_i g2
      simp only [z0] at g2
      rw [if_pos g2] at h
      exact wd_same h
end

section
variable {D : Int} {n : Nat} {x x' y y' bd bd' z : PyData} {f g : Fl} {p q : Rat}
theorem lin12_len {a b c d : Cn} : (lin12 f g p q a b c d).length = 12 := rfl
theorem within_wC {k i i' : Nat} {ea eb ec ed : PyData} {a b c d : Cn} {st : Mem} {Q : WQ} (t : Tw D n x x' y y' bd bd' z f g p q) (h1 : Pc y f.cs i a b ea eb) (h2 : Pc y' g.cs i' c d ec ed) (hab : a.m < b.m) (hcd : c.m < d.m)
    (h : Q (.val (oX (meetW f g p q a b c d))) st) : wC (callN pr (k + 9)) i_meet_within [.val x, .val x', .val z, .val (.int i), .val (.int i')] st Q := by
  have n100 := t.n100
  have ca := (t.cf h1.ma).1
  have cc := (t.cg h2.ma).1
  have il := t.il h1.ma h1.mb h2.ma h2.mb hab hcd
  have l1 : (spanH a b c d).length = 4 := rfl
  have l2 : (winH f g).length = 2 := rfl
  have hR : Ring (lin12 f g p q a b c d) (sqP a.m b.m c.m d.m) := sq_ring (by simp [lin12, spanH]) (by simp [lin12, spanH]) (by simp [lin12, spanH]) (by simp [lin12, spanH])
  have hsub : ∀ l ∈ restH f g p q a b c d, l ∈ lin12 f g p q a b c d := fun l hl => List.mem_append_right _ hl
  unfold meetW at h
  refine wc_call P_meet_within rfl ?_
  repeat' left
  refine spans_wC (N := n) t.hf t.hg h1 h2 ca cc (by omega) ?_
  repeat' left
  refine wins_wC t.hf t.hg ?_
  repeat' left
  rw [show (spanH a b c d).map HD ++ (winH f g).map HD = (spanH a b c d).map HD ++ ((winH f g).map HD ++ []) by rw [List.append_nil]]
  refine far_wC t h1 h2 [] ?_
  repeat' left
  · rename_i hb
    cases hf : farB f g a b c d with
    | true =>
      rw [hf, if_pos rfl] at h
      exact wd_same h
    | false =>
      rw [farO_is.2 hf] at hb
      exact absurd hb (by decide)
  rename_i hb
  cases hf : farB f g a b c d with
  | true =>
    obtain ⟨e, he⟩ := (farO_is (f := f) (g := g) (a := a) (b := b) (c := c) (d := d)).1 hf
    rw [he] at hb
    exact absurd hb (by simp [isNn])
  | false =>
    rw [hf, if_neg (by decide)] at h
    repeat' left
    refine twelve_wC t h1 h2 hab hcd ?_
    repeat' left
    refine psquare_wC t.hf t.hg h1 h2 ?_
    repeat' left
    have e4 : Sk.cutD ((lin12 f g p q a b c d).map HD) (some 4) none = (restH f g p q a b c d).map HD := cut_drop (i := 4)
    rw [e4]
    refine cutby_wC il hR hsub (by simp [restH, winH, sideH]) (by simp [sqP]) (by omega) ?_
    repeat' left
    refine wf_lcP (fun j : Nat => .int (0 + (j : Nat))) (fun j => HD ((lin12 f g p q a b c d).getD j ⟨0, 0, 0⟩)) (fun j => !decide (j ∈ [0, 2, 4, 5])) (List.range 12) (wi_rng1 ?_)
    repeat' left
    have ix : ∀ j : Nat, j < 12 → idxD (.list ((lin12 f g p q a b c d).map HD)) (.int (0 + (j : Nat))) = some (HD ((lin12 f g p q a b c d).getD j ⟨0, 0, 0⟩)) := fun j hj => by
      have hj' : j < (lin12 f g p q a b c d).length := by rw [lin12_len]; exact hj
      rw [Int.zero_add]
      refine idx_get ?_
      rw [List.getD_eq_getElem?_getD, List.getElem?_eq_getElem hj']
      rfl
    have nin : ∀ j : Nat, j < 12 → cop .notIn (.int (0 + (j : Nat))) (.tuple [.int 0, .int 2, .int 4, .int 5]) = some (!decide (j ∈ [0, 2, 4, 5])) := by decide
    refine ⟨by decide, rfl, fun j hj => ?_, ?_⟩
    · have hj := List.mem_range.mp hj
      have e1 := ix j hj
      have e2 := nin j hj
      refine wp_is rfl ?_
      repeat' left
      refine ⟨_, e2, ?_⟩
      refine ⟨rfl, rfl, fun _ => ?_⟩
      repeat' left
      exact ⟨rfl, rfl⟩
    have eo : (List.filter (fun j => !decide (j ∈ [0, 2, 4, 5])) (List.range 12)).map (fun j => HD ((lin12 f g p q a b c d).getD j ⟨0, 0, 0⟩)) = (openH f g p q a b c d).map HD := rfl
    rw [eo]
    repeat' left
    have hR' := cutBy_ring (ls := restH f g p q a b c d) hR hsub
    have hlen : (cutBy (sqP a.m b.m c.m d.m) (restH f g p q a b c d)).length ≤ 100000 := by
      have e := cutBy_len (ls := restH f g p q a b c d) (P := sqP a.m b.m c.m d.m)
      have e8 : (restH f g p q a b c d).length = 8 := rfl
      have e9 : (sqP a.m b.m c.m d.m).length = 4 := rfl
      rw [e8, e9] at e
      omega
    refine inner_wC (L := 3 * n + 5) (S := 2 * (3 * n + 5) + 1) (fun l hl => (il l (open_sub hl)).zl) (fun r hr => vx_sz il (hR'.v r hr)) (by simp [openH]) (by simp [openH, sideH]) hlen (by omega) ?_
    repeat' left
    exact wd_same h
end

def rowN (m i : Nat) : List (Nat × Nat) := (List.range m).map fun j => (i, j)
def pcsN (n m : Nat) : List (Nat × Nat) := (List.range n).flatMap (rowN m)
def PN (r : Nat × Nat) : PyData := .tuple [.int (r.1 : Nat), .int (r.2 : Nat)]
theorem flat_len {m : Nat} : ∀ l : List Nat, (l.flatMap (rowN m)).length = l.length * m
  | [] => by simp
  | a :: l => by
    rw [List.flatMap_cons, List.length_append, flat_len l, List.length_cons, Nat.succ_mul]
    simp [rowN, Nat.add_comm]
theorem mem_pcs {n m i j : Nat} : (i, j) ∈ pcsN n m ↔ i < n ∧ j < m := by
  unfold pcsN rowN
  simp only [List.mem_flatMap, List.mem_range, List.mem_map, Prod.mk.injEq]
  constructor
  · rintro ⟨a, h1, b, h2, rfl, rfl⟩
    exact ⟨h1, h2⟩
  · rintro ⟨h1, h2⟩
    exact ⟨i, h1, j, h2, rfl, rfl⟩
theorem range_pre {done todo : List Nat} {a N : Nat} (e : List.range N = done ++ a :: todo) : done.length = a ∧ a < N := by
  have h := congrArg (fun l => l[done.length]?) e
  simp only [List.getElem?_append_right (Nat.le_refl _), Nat.sub_self, List.getElem?_cons_zero] at h
  obtain ⟨hl, h2⟩ := List.getElem?_eq_some_iff.mp h
  rw [List.length_range] at hl
  rw [List.getElem_range] at h2
  omega
theorem len_pred {n : Nat} (h : n ≤ 100) : (-(2 ^ 60 : Int) ≤ ((n : Nat) : Int) - 1 ∧ ((n : Nat) : Int) - 1 ≤ (lineN : Nat)) := by
  unfold lineN
  omega
theorem pieces_wC {k : Nat} {x x' y y' bd bd' : PyData} {f g : Fl} {st : Mem} {Q : WQ} (hf : FlD x y bd f) (hg : FlD x' y' bd' g) (l1 : f.cs.length ≤ 100) (l2 : g.cs.length ≤ 100)
    (h : Q (.val (.list ((pcsN (f.cs.length - 1) (g.cs.length - 1)).map PN))) st) : wC (callN pr (k + 1)) i_pieces_of [.val x, .val x'] st Q := by
  have f1 := hf.py
  have f2 := hg.py
  have f3 := hf.pl.len
  have f4 := hg.pl.len
  have b1 := len_pred l1
  have b2 := len_pred l2
  refine wc_call P_pieces_of rfl ?_
  repeat' left
  refine ws_forM (fun j : Nat => .int (0 + (j : Nat))) (List.range (f.cs.length - 1)) (fun done _ r s => (∃ a3 a4, r = [some (.val x), some (.val x'), some (.loc st.length), a3, a4]) ∧ s = st ++ [(true, (done.flatMap (rowN (g.cs.length - 1))).map PN)]) (wi_rng1 ?_)
  repeat' left
  refine ⟨b1, ?_, rfl, ⟨⟨_, _, rfl⟩, rfl⟩, ?_, ?_⟩
  · rw [show (((f.cs.length : Nat) : Int) - 1).toNat = f.cs.length - 1 by omega]
    rfl
  · rintro r s ⟨⟨a3, a4, rfl⟩, rfl⟩
    repeat' left
    exact h
  rintro done i todo r s e0 ⟨⟨a3, a4, rfl⟩, rfl⟩
  obtain ⟨d1, d2⟩ := range_pre e0
  refine wp_is rfl ?_
  repeat' left
  refine wf_lcM (fun j : Nat => .int (0 + (j : Nat))) (fun j => PN (i, j)) (List.range (g.cs.length - 1)) (wi_rng1 ?_)
  repeat' left
  refine ⟨b2, ?_, fun j hj => ?_, ?_⟩
  · rw [show (((g.cs.length : Nat) : Int) - 1).toNat = g.cs.length - 1 by omega]
    rfl
  · refine wp_is rfl ?_
    repeat' left
    refine ⟨rfl, ?_⟩
    rw [Int.zero_add, Int.zero_add]
    rfl
  repeat' left
  refine wxt_end rfl ?_ ?_
  · have := flat_len (m := g.cs.length - 1) done
    rw [List.length_map, this, List.length_map, List.length_range]
    have h1 : done.length * (g.cs.length - 1) ≤ 100 * 100 := Nat.mul_le_mul (by omega) (by omega)
    unfold lineN
    omega
  repeat' left
  refine ⟨⟨_, _, rfl⟩, ?_⟩
  rw [List.flatMap_append, List.map_append]
  simp [rowN]
section
variable {D : Int} {n : Nat} {x x' y y' bd bd' z : PyData} {f g : Fl} {p q : Rat}
/-- what is found of the i-th and the j-th piece -/
def atW (f g : Fl) (p q : Rat) (r : Nat × Nat) : Option Pt := match f.cs[r.1]?, f.cs[r.1 + 1]?, g.cs[r.2]?, g.cs[r.2 + 1]? with
  | some a, some b, some c, some d => meetW f g p q a b c d
  | _, _, _, _ => none
/-- own moments by which two flights may meet, the first found -/
def metW (f g : Fl) (p q : Rat) : Option Pt := (pcsN (f.cs.length - 1) (g.cs.length - 1)).findSome? (atW f g p q)
theorem next_lt {cs : List Cn} (hp : cs.Pairwise (fun a b => a.m < b.m)) {i : Nat} {a b : Cn} (ha : cs[i]? = some a) (hb : cs[i + 1]? = some b) : a.m < b.m := by
  obtain ⟨h1, rfl⟩ := List.getElem?_eq_some_iff.mp ha
  obtain ⟨h2, rfl⟩ := List.getElem?_eq_some_iff.mp hb
  exact List.pairwise_iff_getElem.mp hp i (i + 1) h1 h2 (Nat.lt_succ_self i)
theorem atW_is {r : Nat × Nat} (h1 : r.1 < f.cs.length - 1) (h2 : r.2 < g.cs.length - 1) : ∃ a b c d, f.cs[r.1]? = some a ∧ f.cs[r.1 + 1]? = some b ∧ g.cs[r.2]? = some c ∧ g.cs[r.2 + 1]? = some d ∧ atW f g p q r = meetW f g p q a b c d := by
  have e1 : f.cs[r.1]? = some (f.cs[r.1]'(by omega)) := List.getElem?_eq_getElem _
  have e2 : f.cs[r.1 + 1]? = some (f.cs[r.1 + 1]'(by omega)) := List.getElem?_eq_getElem _
  have e3 : g.cs[r.2]? = some (g.cs[r.2]'(by omega)) := List.getElem?_eq_getElem _
  have e4 : g.cs[r.2 + 1]? = some (g.cs[r.2 + 1]'(by omega)) := List.getElem?_eq_getElem _
  exact ⟨_, _, _, _, e1, e2, e3, e4, by unfold atW; rw [e1, e2, e3, e4]⟩
theorem met_wC {k : Nat} {st : Mem} {Q : WQ} (t : Tw D n x x' y y' bd bd' z f g p q) (l1 : f.cs.length ≤ 100) (l2 : g.cs.length ≤ 100) (h : Q (.val (oX (metW f g p q))) st) : wC (callN pr (k + 10)) i_met_at [.val x, .val x', .val z] st Q := by
  refine wc_call P_met_at rfl ?_
  repeat' left
  refine ws_forX PN (wi_seq ?_)
  repeat' left
  refine pieces_wC t.hf t.hg l1 l2 ?_
  repeat' left
  refine ⟨rfl, fun done _ r s => (∃ a3 a4 a5, r = [some (.val x), some (.val x'), some (.val z), a3, a4, a5] ∧ ∀ e ∈ done, atW f g p q e = none) ∧ s = st, ⟨⟨_, _, _, rfl, by simp⟩, rfl⟩, ?_, ?_⟩
  · rintro r s ⟨⟨a3, a4, a5, rfl, hno⟩, rfl⟩
    have e : metW f g p q = none := List.findSome?_eq_none_iff.mpr hno
    rw [e] at h
    repeat' left
    exact wd_same h
  rintro done ⟨i, j⟩ todo r s e0 ⟨⟨a3, a4, a5, rfl, hno⟩, rfl⟩
  have hm : (i, j) ∈ pcsN (f.cs.length - 1) (g.cs.length - 1) := by rw [e0]; simp
  obtain ⟨hi, hj⟩ := mem_pcs.mp hm
  obtain ⟨a, b, c, d, ea, eb, ec, ed, ew⟩ := atW_is (f := f) (g := g) (p := p) (q := q) (r := (i, j)) hi hj
  obtain ⟨u, v, h1⟩ := t.hf.pl.pc ea eb
  obtain ⟨u', v', h2⟩ := t.hg.pl.pc ec ed
  have hab := next_lt t.gf.p ea eb
  have hcd := next_lt t.gg.p ec ed
  refine wp_is rfl ?_
  repeat' left
  refine within_wC t h1 h2 hab hcd ?_
  rw [← ew]
  have hcase : metW f g p q = ((atW f g p q (i, j)).or ((todo.findSome? (atW f g p q)))) := by
    unfold metW
    rw [e0, List.findSome?_append, List.findSome?_eq_none_iff.mpr hno, Option.none_or, List.findSome?_cons]
    cases atW f g p q (i, j) <;> rfl
  cases hw : atW f g p q (i, j) with
  | none =>
    repeat' left
    refine ⟨⟨_, _, _, rfl, fun e he => ?_⟩, rfl⟩
    rcases List.mem_append.mp he with he | he
    · exact hno e he
    · rw [List.mem_singleton.mp he]; exact hw
  | some w =>
    rw [hw] at hcase
    rw [hcase] at h
    repeat' left
    exact wd_same h
end

/-! ### weights -/
theorem fit_F {q : Rat} : fit (F q) = true := by
  unfold F fit
  simp [okd, flatD]
theorem wc_eqR {p q : Rat} {P : Bool → Prop} (h : P (decide (p = q))) : wP .eq (F p) (F q) P := by
  refine ⟨_, ?_, h⟩
  show eqD (.tuple [.int p.num, .int p.den]) (.tuple [.int q.num, .int q.den]) = _
  unfold eqD
  simp only
  have e1 : fit (.tuple [.int p.num, .int p.den]) = true := fit_F (q := p)
  have e2 : fit (.tuple [.int q.num, .int q.den]) = true := fit_F (q := q)
  rw [e1, e2]
  have e : PyData.eqv (F p) (F q) = decide (p = q) := eqv_F
  exact congrArg some e
theorem wc_neR {p q : Rat} {P : Bool → Prop} (h : P (!decide (p = q))) : wP .ne (F p) (F q) P := by
  obtain ⟨b, e, g⟩ := wc_eqR (P := fun b => b = decide (p = q)) (p := p) (q := q) rfl
  refine ⟨!b, ?_, by rw [show b = decide (p = q) from g]; exact h⟩
  show (eqD (F p) (F q)).map (!·) = some (!b)
  rw [show eqD (F p) (F q) = some b from e]
  rfl
theorem wc_eq0 {p : Rat} {P : Bool → Prop} (h : P (decide (p = 0))) : wP .eq (F p) (.tuple [.int 0, .int 1]) P := wc_eqR (q := 0) h
theorem wc_ne0 {p : Rat} {P : Bool → Prop} (h : P (!decide (p = 0))) : wP .ne (F p) (.tuple [.int 0, .int 1]) P := wc_neR (q := 0) h
def turnR (l m : Hp) : Rat := l.a * m.b - l.b * m.a
abbrev Wt := Nat × Rat
def WtD (w : Wt) : PyData := .tuple [.int (w.1 : Nat), F w.2]
def lAt (ls : List Hp) (k : Nat) : Hp := ls.getD k ⟨0, 0, 0⟩
def sumW (ls : List Hp) (ws : List Wt) : Rat := ws.foldl (fun t w => t + w.2 * (lAt ls w.1).c) 0
def openN (k : Nat) : Bool := !decide (k ∈ [0, 2, 4, 5])
def canNot (ls : List Hp) (ws : List Wt) : Bool := decide (sumW ls ws < 0) || (decide (sumW ls ws = 0) && ws.any fun w => openN w.1)
def flatH (l : Hp) : Bool := decide (l.a = 0) && decide (l.b = 0)
def sizeH (l : Hp) : Rat := if (if l.a = 0 then l.b else l.a) < 0 then 0 - (if l.a = 0 then l.b else l.a) else (if l.a = 0 then l.b else l.a)
def againstH (l m : Hp) : Bool := !flatH l && (!flatH m && (decide (turnR l m = 0) && decide (l.a * m.a + l.b * m.b < 0)))
theorem lAt_some {ls : List Hp} {k : Nat} (h : k < ls.length) : ls[k]? = some (lAt ls k) := by
  unfold lAt
  rw [List.getD_eq_getElem?_getD, List.getElem?_eq_getElem h]
  rfl
theorem turn_sz {H : Nat} {l m : Hp} (hl : Zl H l) (hm : Zl H m) : Sz (4 * H + 1) (turnR l m) := (sz_sub (sz_mul hl.a hm.b) (sz_mul hl.b hm.a)).mono (by omega)
theorem size_sz {H : Nat} {l : Hp} (hl : Zl H l) : Sz (H + 2) (sizeH l) := by
  unfold sizeH
  have hz : Sz H (if l.a = 0 then l.b else l.a) := by
    split
    · exact hl.b
    · exact hl.a
  generalize (if l.a = 0 then l.b else l.a) = v at *
  split
  · exact (sz_sub (a := 1) (b := H) sz_0 hz).mono (by omega)
  · exact hz.mono (by omega)
theorem turn_wC {k H : Nat} {l m : Hp} {st : Mem} {Q : WQ} (hl : Zl H l) (hm : Zl H m) (hH : H ≤ 400) (h : Q (.val (F (turnR l m))) st) : wC (callN pr (k + 4)) i_turn_of [.val (HD l), .val (HD m)] st Q := by
  have a1 := hl.a
  have a2 := hl.b
  have b1 := hm.a
  have b2 := hm.b
  refine wc_call P_turn_of rfl ?_
  repeat' left
  exact wd_same h
theorem flat_wC {k : Nat} {l : Hp} {st : Mem} {Q : WQ} (h : Q (.val (.bool (flatH l))) st) : wC (callN pr (k + 1)) i_is_flat [.val (HD l)] st Q := by
  unfold flatH at h
  refine wc_call P_is_flat rfl ?_
  repeat' left
  refine wc_eq0 ?_
  repeat' left
  · rename_i hb
    refine wc_eq0 ?_
    repeat' left
    rw [decide_eq_true hb, Bool.true_and] at h
    exact wd_same h
  · rename_i hb
    rw [decide_eq_false hb, Bool.false_and] at h
    exact wd_same h
theorem size_wC {k H : Nat} {l : Hp} {st : Mem} {Q : WQ} (hl : Zl H l) (hH : H ≤ 400) (h : Q (.val (F (sizeH l))) st) : wC (callN pr (k + 4)) i_size_of [.val (HD l)] st Q := by
  have a1 := hl.a
  have a2 := hl.b
  unfold sizeH at h
  refine wc_call P_size_of rfl ?_
  repeat' left
  · rename_i ha hb
    simp only [if_pos ha] at h
    rw [if_pos hb] at h
    exact wd_same h
  · rename_i ha hb
    simp only [if_pos ha] at h
    rw [if_neg hb] at h
    exact wd_same h
  · rename_i ha hb
    simp only [if_neg ha] at h
    rw [if_pos hb] at h
    exact wd_same h
  · rename_i ha hb
    simp only [if_neg ha] at h
    rw [if_neg hb] at h
    exact wd_same h
theorem against_wC {k H : Nat} {l m : Hp} {st : Mem} {Q : WQ} (hl : Zl H l) (hm : Zl H m) (hH : H ≤ 400) (h : Q (.val (.bool (againstH l m))) st) : wC (callN pr (k + 5)) i_are_against [.val (HD l), .val (HD m)] st Q := by
  have a1 := hl.a
  have a2 := hl.b
  have b1 := hm.a
  have b2 := hm.b
  unfold againstH at h
  refine wc_call P_are_against rfl ?_
  repeat' left
  refine flat_wC ?_
  cases hf : flatH l with
  | true =>
    rw [hf] at h
    repeat' left
    exact wd_same h
  | false =>
    rw [hf, Bool.not_false, Bool.true_and] at h
    repeat' left
    refine flat_wC ?_
    cases hg : flatH m with
    | true =>
      rw [hg] at h
      repeat' left
      exact wd_same h
    | false =>
      rw [hg, Bool.not_false, Bool.true_and] at h
      repeat' left
      refine turn_wC hl hm hH ?_
      repeat' left
      refine wc_ne0 ?_
      repeat' left
      · rename_i hb
        rw [decide_eq_false hb, Bool.false_and] at h
        exact wd_same h
      · rename_i hb
        rw [decide_eq_true hb, Bool.true_and] at h
        exact wd_same h
theorem sumW_snoc {ls : List Hp} {ws : List Wt} {w : Wt} : sumW ls (ws ++ [w]) = sumW ls ws + w.2 * (lAt ls w.1).c := by
  unfold sumW
  rw [List.foldl_append]
  rfl
theorem sumF_sz {ls : List Hp} {H T : Nat} (hL : ∀ l ∈ ls, Zl H l) : ∀ {ws : List Wt} {t : Rat} {m : Nat}, Sz m t → (∀ w ∈ ws, w.1 < ls.length ∧ Sz T w.2) → Sz (m + ws.length * (H + T + 1)) (ws.foldl (fun t w => t + w.2 * (lAt ls w.1).c) t)
  | [], t, m, h, _ => h.mono (by simp)
  | w :: ws, t, m, h, hw => by
    obtain ⟨h1, h2⟩ := hw w (by simp)
    have hc := (hL _ (List.mem_of_getElem? (lAt_some h1))).c
    have := sumF_sz hL (ws := ws) (sz_add h (sz_mul h2 hc)) fun v hv => hw v (by simp [hv])
    rw [List.foldl_cons]
    refine this.mono ?_
    rw [List.length_cons, Nat.succ_mul]
    omega
theorem sumW_sz {ls : List Hp} {H T : Nat} (hL : ∀ l ∈ ls, Zl H l) {ws : List Wt} (h : ∀ w ∈ ws, w.1 < ls.length ∧ Sz T w.2) : Sz (1 + ws.length * (H + T + 1)) (sumW ls ws) := sumF_sz hL sz_0 h
theorem sum_wC {k H T : Nat} {ls : List Hp} {ws : List Wt} {st : Mem} {Q : WQ} (hL : ∀ l ∈ ls, Zl H l) (hw : ∀ w ∈ ws, w.1 < ls.length ∧ Sz T w.2) (hn : ws.length ≤ 3) (hb : 3 * (H + T + 1) + 10 < 8900) (h : Q (.val (F (sumW ls ws))) st) : wC (callN pr (k + 4)) i_sum_of [.val (.list (ls.map HD)), .val (.tuple (ws.map WtD))] st Q := by
  refine wc_call P_sum_of rfl ?_
  repeat' left
  refine ws_forX WtD (wi_seq ?_)
  repeat' left
  refine ⟨rfl, fun done _ r s => (∃ a3 a4, r = [some (.val (.list (ls.map HD))), some (.val (.tuple (ws.map WtD))), some (.val (F (sumW ls done))), a3, a4]) ∧ s = st, ⟨⟨_, _, rfl⟩, rfl⟩, ?_, ?_⟩
  · rintro r s ⟨⟨a3, a4, rfl⟩, rfl⟩
    repeat' left
    exact wd_same h
  rintro done w todo r s e0 ⟨⟨a3, a4, rfl⟩, rfl⟩
  obtain ⟨h1, h2⟩ := hw w (by rw [e0]; simp)
  have hd := sumW_sz hL (ws := done) fun v hv => hw v (by rw [e0]; exact List.mem_append_left _ hv)
  have hdl : done.length ≤ 2 := by rw [e0, List.length_append, List.length_cons] at hn; omega
  have hm : done.length * (H + T + 1) ≤ 2 * (H + T + 1) := Nat.mul_le_mul_right _ hdl
  have hd2 : Sz (1 + 2 * (H + T + 1)) (sumW ls done) := hd.mono (by omega)
  have hc := (hL _ (List.mem_of_getElem? (lAt_some h1))).c
  have ix : idxD (.list (ls.map HD)) (.int (w.1 : Nat)) = some (HD (lAt ls w.1)) := idx_get (lAt_some h1)
  repeat' left
  exact ⟨⟨_, _, by rw [sumW_snoc]; rfl⟩, rfl⟩
theorem can_wC {k H T : Nat} {ls : List Hp} {ws : List Wt} {st : Mem} {Q : WQ} (hL : ∀ l ∈ ls, Zl H l) (hw : ∀ w ∈ ws, w.1 < ls.length ∧ Sz T w.2) (hl : ls.length = 12) (hn : ws.length ≤ 3) (hb : 3 * (H + T + 1) + 10 < 8900) (h : Q (.val (.bool (canNot ls ws))) st) : wC (callN pr (k + 5)) i_can_not_be [.val (.list (ls.map HD)), .val (.tuple (ws.map WtD))] st Q := by
  have nin : ∀ j : Nat, j < 12 → cop .notIn (.int (j : Nat)) (.tuple [.int 0, .int 2, .int 4, .int 5]) = some (openN j) := by decide
  have hs := sumW_sz hL hw
  have hm : ws.length * (H + T + 1) ≤ 3 * (H + T + 1) := Nat.mul_le_mul_right _ hn
  have hs2 : Sz (1 + 3 * (H + T + 1)) (sumW ls ws) := hs.mono (by omega)
  unfold canNot at h
  refine wc_call P_can_not_be rfl ?_
  repeat' left
  refine sum_wC hL hw hn hb ?_
  repeat' left
  · rename_i hb
    rw [decide_eq_true hb, Bool.true_or] at h
    exact wd_same h
  rename_i hb
  rw [decide_eq_false hb, Bool.false_or] at h
  refine wc_eq0 ?_
  repeat' left
  · rename_i hb2
    rw [decide_eq_true hb2, Bool.true_and] at h
    refine wf_lcM WtD (fun w => .bool (openN w.1)) ws (wi_seq ?_)
    repeat' left
    refine ⟨rfl, fun w hw' => ?_, ?_⟩
    · have := nin w.1 (by rw [← hl]; exact (hw w hw').1)
      repeat' left
      refine ⟨_, this, ?_⟩
      repeat' left
      exact ⟨rfl, rfl⟩
    repeat' left
    refine wbl_is bl_any ?_
    repeat' left
    exact wd_same h
  · rename_i hb2
    rw [decide_eq_false hb2, Bool.false_and] at h
    exact wd_same h

theorem enum_map {α : Type} {f : α → PyData} : ∀ {xs : List α} {k : Nat}, enumD k (xs.map f) = (xs.zipIdx k).map fun p => .tuple [.int p.2, f p.1]
  | [], _ => rfl
  | x :: xs, k => by
    rw [List.map_cons, enumD, enum_map, List.zipIdx_cons, List.map_cons]
theorem zipIdx_at {α : Type} {xs : List α} {done todo : List (α × Nat)} {a : α} {i : Nat} (e : xs.zipIdx = done ++ (a, i) :: todo) : i = done.length ∧ xs[i]? = some a := by
  have h : (xs.zipIdx)[done.length]? = some (a, i) := by rw [e]; simp
  rw [List.getElem?_zipIdx] at h
  obtain ⟨b, hb, he⟩ := Option.map_eq_some_iff.mp h
  simp only [Prod.mk.injEq, Nat.zero_add] at he
  obtain ⟨rfl, rfl⟩ := he
  exact ⟨rfl, hb⟩

def wsO : Option (List Wt) → PyData
  | none => .none
  | some ws => .tuple (ws.map WtD)
def singW (ls : List Hp) (r : Hp × Nat) : Option (List Wt) := if flatH r.1 = true ∧ canNot ls [(r.2, 1)] = true then some [(r.2, 1)] else none
def singleW (ls : List Hp) : Option (List Wt) := ls.zipIdx.findSome? (singW ls)
def twoW (ls : List Hp) (l : Hp) (k m : Nat) : Option (List Wt) := if againstH l (lAt ls m) = true ∧ canNot ls [(k, sizeH (lAt ls m)), (m, sizeH l)] = true then some [(k, sizeH (lAt ls m)), (m, sizeH l)] else none
def pairRW (ls : List Hp) (r : Hp × Nat) : Option (List Wt) := (List.range (ls.length - (r.2 + 1))).findSome? fun j => twoW ls r.1 r.2 (r.2 + 1 + j)
def pairW (ls : List Hp) : Option (List Wt) := ls.zipIdx.findSome? (pairRW ls)
def thirdW (i j l : Nat) (u v w : Rat) : Option (List Wt) :=
  if u < 0 ∧ 0 - v < 0 ∧ w < 0 then (if 0 < 0 - u ∧ 0 < 0 - (0 - v) ∧ 0 < 0 - w then some [(i, 0 - u), (j, 0 - (0 - v)), (l, 0 - w)] else none)
  else if 0 < u ∧ 0 < 0 - v ∧ 0 < w then some [(i, u), (j, 0 - v), (l, w)] else none
def triW (ls : List Hp) (i j l : Nat) : Option (List Wt) := (thirdW i j l (turnR (lAt ls j) (lAt ls l)) (turnR (lAt ls i) (lAt ls l)) (turnR (lAt ls i) (lAt ls j))).bind fun ws => if canNot ls ws = true then some ws else none
def triRW (ls : List Hp) (r : Nat × Nat) : Option (List Wt) := (List.range (ls.length - (r.2 + 1))).findSome? fun m => triW ls r.1 r.2 (r.2 + 1 + m)
def upN (n i : Nat) : List (Nat × Nat) := (List.range (n - (i + 1))).map fun j => (i, i + 1 + j)
def prsN (n : Nat) : List (Nat × Nat) := (List.range n).flatMap (upN n)
def tripleW (ls : List Hp) : Option (List Wt) := (prsN ls.length).findSome? (triRW ls)
def FF (q : Rat) : PyData := F q
theorem single_wC {k H : Nat} {ls : List Hp} {st : Mem} {Q : WQ} (hL : ∀ l ∈ ls, Zl H l) (hl : ls.length = 12) (hH : H ≤ 400) (h : Q (.val (wsO (singleW ls))) st) : wC (callN pr (k + 6)) i_single_weights [.val (.list (ls.map HD))] st Q := by
  refine wc_call P_single_weights rfl ?_
  repeat' left
  refine ws_forX (fun p : Hp × Nat => .tuple [.int p.2, HD p.1]) (wi_enum ?_)
  repeat' left
  refine ⟨ls.zipIdx, enum_map, rfl, fun done _ r s => (∃ a1 a2 a3, r = [some (.val (.list (ls.map HD))), a1, a2, a3] ∧ ∀ e ∈ done, singW ls e = none) ∧ s = st, ⟨⟨_, _, _, rfl, by simp⟩, rfl⟩, ?_, ?_⟩
  · rintro r s ⟨⟨a1, a2, a3, rfl, hno⟩, rfl⟩
    have e : singleW ls = none := List.findSome?_eq_none_iff.mpr hno
    rw [e] at h
    repeat' left
    exact wd_same h
  rintro done ⟨l, i⟩ todo r s e0 ⟨⟨a1, a2, a3, rfl, hno⟩, rfl⟩
  obtain ⟨_, hi⟩ := zipIdx_at e0
  have hil : i < ls.length := (List.getElem?_eq_some_iff.mp hi).1
  have hcase : singleW ls = (singW ls (l, i)).or (todo.findSome? (singW ls)) := by
    unfold singleW
    rw [e0, List.findSome?_append, List.findSome?_eq_none_iff.mpr hno, Option.none_or, List.findSome?_cons]
    cases singW ls (l, i) <;> rfl
  have hcan : ∀ {k : Nat} {Q : WQ}, Q (.val (.bool (canNot ls [(i, 1)]))) s → wC (callN pr (k + 5)) i_can_not_be [.val (.list (ls.map HD)), .val (.tuple [.tuple [.int (i : Nat), F 1]])] s Q := fun h =>
    can_wC (H := H) (T := 1) (ws := [(i, 1)]) hL (fun w hw => by rw [List.mem_singleton.mp hw]; exact ⟨hil, sz_1⟩) hl (by simp) (by omega) h
  have no : singW ls (l, i) = none → ∀ e ∈ done ++ [(l, i)], singW ls e = none := fun hn e he => by
    rcases List.mem_append.mp he with he | he
    · exact hno e he
    · rw [List.mem_singleton.mp he]; exact hn
  repeat' left
  refine flat_wC ?_
  cases hf : flatH l with
  | false =>
    repeat' left
    exact ⟨⟨_, _, _, rfl, no (by unfold singW; rw [if_neg (by simp [hf])])⟩, rfl⟩
  | true =>
    repeat' left
    refine hcan ?_
    cases hc : canNot ls [(i, 1)] with
    | false =>
      repeat' left
      exact ⟨⟨_, _, _, rfl, no (by unfold singW; rw [if_neg (by simp [hc])])⟩, rfl⟩
    | true =>
      have e : singW ls (l, i) = some [(i, 1)] := by unfold singW; rw [if_pos ⟨hf, hc⟩]
      rw [e] at hcase
      rw [hcase] at h
      repeat' left
      exact wd_same h

theorem WtD_tup {a b : Wt} : PyData.tuple ([a, b].map WtD) = .tuple [.tuple [.int (a.1 : Nat), F a.2], .tuple [.int (b.1 : Nat), F b.2]] := rfl
theorem rng2_rows {n i : Nat} : rngD ((i : Int) + 1) ((n : Int) - ((i : Int) + 1)).toNat = (List.range (n - (i + 1))).map fun j : Nat => PyData.int ((i : Int) + 1 + (j : Nat)) := by
  have : ((n : Int) - ((i : Int) + 1)).toNat = n - (i + 1) := by omega
  rw [this]
  rfl
theorem pair_wC {k H : Nat} {ls : List Hp} {st : Mem} {Q : WQ} (hL : ∀ l ∈ ls, Zl H l) (hl : ls.length = 12) (hH : H ≤ 400) (h : Q (.val (wsO (pairW ls))) st) : wC (callN pr (k + 6)) i_pair_weights [.val (.list (ls.map HD))] st Q := by
  refine wc_call P_pair_weights rfl ?_
  repeat' left
  refine ws_forX (fun p : Hp × Nat => .tuple [.int p.2, HD p.1]) (wi_enum ?_)
  repeat' left
  refine ⟨ls.zipIdx, enum_map, rfl, fun done _ r s => (∃ a1 a2 a3 a4, r = [some (.val (.list (ls.map HD))), a1, a2, a3, a4] ∧ ∀ e ∈ done, pairRW ls e = none) ∧ s = st, ⟨⟨_, _, _, _, rfl, by simp⟩, rfl⟩, ?_, ?_⟩
  · rintro r s ⟨⟨a1, a2, a3, a4, rfl, hno⟩, rfl⟩
    have e : pairW ls = none := List.findSome?_eq_none_iff.mpr hno
    rw [e] at h
    repeat' left
    exact wd_same h
  rintro done ⟨l, i⟩ todo r s e0 ⟨⟨a1, a2, a3, a4, rfl, hno⟩, rfl⟩
  obtain ⟨_, hi⟩ := zipIdx_at e0
  have hil : i < ls.length := (List.getElem?_eq_some_iff.mp hi).1
  have hlm := List.mem_of_getElem? hi
  have hcase : pairW ls = (pairRW ls (l, i)).or (todo.findSome? (pairRW ls)) := by
    unfold pairW
    rw [e0, List.findSome?_append, List.findSome?_eq_none_iff.mpr hno, Option.none_or, List.findSome?_cons]
    cases pairRW ls (l, i) <;> rfl
  have no : pairRW ls (l, i) = none → ∀ e ∈ done ++ [(l, i)], pairRW ls e = none := fun hn e he => by
    rcases List.mem_append.mp he with he | he
    · exact hno e he
    · rw [List.mem_singleton.mp he]; exact hn
  clear e0 hno
  have eL : ((ls.map HD).length : Int) = (ls.length : Nat) := by rw [List.length_map]
  refine wp_is rfl ?_
  repeat' left
  refine ws_forM (fun j : Nat => .int ((i : Int) + 1 + (j : Nat))) (List.range (ls.length - (i + 1))) (fun dn _ r s' => (∃ a3 a4, r = [some (.val (.list (ls.map HD))), some (.val (.int (i : Nat))), some (.val (HD l)), a3, a4] ∧ ∀ e ∈ dn, twoW ls l i (i + 1 + e) = none) ∧ s' = s) (wi_rng2 ?_)
  repeat' left
  have hi12 : i < 12 := by omega
  refine ⟨by rw [eL]; unfold lineN; show -2 ^ 60 ≤ (i : Int) + 1 ∧ (i : Int) + 1 < 2 ^ 60 ∧ _; omega, by rw [eL]; exact rng2_rows, rfl, ⟨⟨_, _, rfl, by simp⟩, rfl⟩, ?_, ?_⟩
  · rintro r s' ⟨⟨a3, a4, rfl, hno⟩, rfl⟩
    have e : pairRW ls (l, i) = none := List.findSome?_eq_none_iff.mpr fun j hj => hno j hj
    repeat' left
    exact ⟨⟨_, _, _, _, rfl, no e⟩, rfl⟩
  rintro dn j td r s' e1 ⟨⟨a3, a4, rfl, hno⟩, rfl⟩
  obtain ⟨_, hj⟩ := range_pre e1
  have hm : i + 1 + j < ls.length := by omega
  have zl := hL l hlm
  have zm := hL _ (List.mem_of_getElem? (lAt_some hm))
  have ix : idxD (.list (ls.map HD)) (.int ((i : Int) + 1 + (j : Nat))) = some (HD (lAt ls (i + 1 + j))) := by
    have := idx_get (f := HD) (lAt_some hm)
    rwa [show ((i + 1 + j : Nat) : Int) = (i : Int) + 1 + (j : Nat) by omega] at this
  have hrow : pairRW ls (l, i) = (twoW ls l i (i + 1 + j)).or (td.findSome? fun j => twoW ls l i (i + 1 + j)) := by
    unfold pairRW
    rw [e1, List.findSome?_append, List.findSome?_eq_none_iff.mpr hno, Option.none_or, List.findSome?_cons]
    cases twoW ls l i (i + 1 + j) <;> rfl
  have nx : twoW ls l i (i + 1 + j) = none → ∀ e ∈ dn ++ [j], twoW ls l i (i + 1 + e) = none := fun hn e he => by
    rcases List.mem_append.mp he with he | he
    · exact hno e he
    · rw [List.mem_singleton.mp he]; exact hn
  have hcan : ∀ {k : Nat} {Q : WQ}, Q (.val (.bool (canNot ls [(i, sizeH (lAt ls (i + 1 + j))), (i + 1 + j, sizeH l)]))) s' → wC (callN pr (k + 5)) i_can_not_be [.val (.list (ls.map HD)), .val (.tuple [.tuple [.int (i : Nat), F (sizeH (lAt ls (i + 1 + j)))], .tuple [.int ((i : Int) + 1 + (j : Nat)), F (sizeH l)]])] s' Q := fun h => by
    have e : PyData.tuple [.tuple [.int (i : Nat), F (sizeH (lAt ls (i + 1 + j)))], .tuple [.int ((i : Int) + 1 + (j : Nat)), F (sizeH l)]] = .tuple ([(i, sizeH (lAt ls (i + 1 + j))), (i + 1 + j, sizeH l)].map WtD) := by
      rw [WtD_tup]
      rw [show ((i + 1 + j : Nat) : Int) = (i : Int) + 1 + (j : Nat) by omega]
    rw [e]
    refine can_wC (H := H) (T := H + 2) hL (fun w hw => ?_) hl (by simp) (by omega) h
    simp only [List.mem_cons, List.not_mem_nil, or_false] at hw
    rcases hw with rfl | rfl
    · exact ⟨hil, size_sz zm⟩
    · exact ⟨hm, size_sz zl⟩
  refine wp_is rfl ?_
  repeat' left
  refine against_wC zl zm hH ?_
  cases hf : againstH l (lAt ls (i + 1 + j)) with
  | false =>
    repeat' left
    exact ⟨⟨_, _, rfl, nx (by unfold twoW; rw [if_neg (by simp [hf])])⟩, rfl⟩
  | true =>
    repeat' left
    refine size_wC zm hH ?_
    repeat' left
    refine size_wC zl hH ?_
    repeat' left
    refine hcan ?_
    cases hc : canNot ls [(i, sizeH (lAt ls (i + 1 + j))), (i + 1 + j, sizeH l)] with
    | false =>
      repeat' left
      exact ⟨⟨_, _, rfl, nx (by unfold twoW; rw [if_neg (by simp [hc])])⟩, rfl⟩
    | true =>
      have e : twoW ls l i (i + 1 + j) = some [(i, sizeH (lAt ls (i + 1 + j))), (i + 1 + j, sizeH l)] := by unfold twoW; rw [if_pos ⟨hf, hc⟩]
      rw [hcase, hrow, e] at h
      have e2 : wsO ((Option.some [(i, sizeH (lAt ls (i + 1 + j))), (i + 1 + j, sizeH l)]).or (td.findSome? fun j => twoW ls l i (i + 1 + j)) |>.or (todo.findSome? (pairRW ls))) = PyData.tuple [.tuple [.int (i : Nat), F (sizeH (lAt ls (i + 1 + j)))], .tuple [.int ((i : Int) + 1 + (j : Nat)), F (sizeH l)]] := by
        show PyData.tuple ([(i, sizeH (lAt ls (i + 1 + j))), (i + 1 + j, sizeH l)].map WtD) = _
        rw [WtD_tup, show ((i + 1 + j : Nat) : Int) = (i : Int) + 1 + (j : Nat) by omega]
      rw [e2] at h
      repeat' left
      exact wd_same h

theorem third_all {u v w : Rat} {p : Rat → Bool} : ([u, v, w].all p) = (p u && (p v && p w)) := by simp
section
local macro_rules | `(tactic| left) => `(tactic| refine we_idxD (a := .var 0) ?_)
theorem third_wC {k T dn : Nat} {b : Bool} {kvs : List PyData} {i j l : Nat} {u v w : Rat} {st : Mem} {Q : WQ} (h0 : st[dn]? = some (b, kvs)) (g1 : dget kvs [(j : Int), (l : Int)] = some (F u)) (g2 : dget kvs [(i : Int), (l : Int)] = some (F v)) (g3 : dget kvs [(i : Int), (j : Int)] = some (F w))
    (s1 : Sz T u) (s2 : Sz T v) (s3 : Sz T w) (hT : T ≤ 2000) (h : Q (.val (wsO (thirdW i j l u v w))) st) : wC (callN pr (k + 5)) i_third_weights [.dic dn, .val (.tuple [.int (i : Nat), .int (j : Nat), .int (l : Nat)])] st Q := by
  have hd : ∀ {ks : List Int} {q : Rat} {P : PyData → Prop}, dget kvs ks = some (F q) → P (F q) → wDg st (.dic dn) (.val (.tuple (ks.map .int))) P := fun g q => wdg_of h0 g q
  have eb : ∀ (as : List Rat) (p : Rat → Bool), bltD .all1 [.list (as.map fun a => .bool (p a))] = some (.bool (as.all p)) := fun as p => bl_all
  unfold thirdW at h
  refine wc_call P_third_weights rfl ?_
  repeat' left
  refine hd (ks := [(j : Int), (l : Int)]) g1 ?_
  repeat' left
  refine hd (ks := [(i : Int), (l : Int)]) g2 ?_
  repeat' left
  refine hd (ks := [(i : Int), (j : Int)]) g3 ?_
  repeat' left
  rw [show [F u, F (0 - v), F w] = [u, 0 - v, w].map F from rfl]
  have sv : Sz (T + 2) (0 - v) := (sz_sub (a := 1) (b := T) sz_0 s2).mono (by omega)
  have sm : ∀ q ∈ [u, 0 - v, w], Sz (T + 2) q := fun q hq => by
    simp only [List.mem_cons, List.not_mem_nil, or_false] at hq
    rcases hq with rfl | rfl | rfl
    · exact s1.mono (by omega)
    · exact sv
    · exact s3.mono (by omega)
  refine wf_lcM F (fun q => .bool (decide (q < 0))) [u, 0 - v, w] (wi_seq ?_)
  repeat' left
  refine ⟨rfl, fun q hq => ?_, ?_⟩
  · have := sm q hq
    repeat' left
    exact ⟨rfl, rfl⟩
  repeat' left
  · rename_i hb
    have c1 : u < 0 ∧ 0 - v < 0 ∧ w < 0 := by simpa using hb
    rw [if_pos c1] at h
    refine wf_lcM F (fun q => F (0 - q)) [u, 0 - v, w] (wi_seq ?_)
    repeat' left
    refine ⟨rfl, fun q hq => ?_, ?_⟩
    · have := sm q hq
      repeat' left
      exact ⟨rfl, rfl⟩
    repeat' left
    rw [show [u, 0 - v, w].map (fun q => F (0 - q)) = [0 - u, 0 - (0 - v), 0 - w].map F from rfl]
    have sm2 : ∀ q ∈ [0 - u, 0 - (0 - v), 0 - w], Sz (T + 4) q := fun q hq => by
      have st : ∀ {x : Rat}, Sz (T + 2) x → Sz (T + 4) (0 - x) := fun h => (sz_sub (a := 1) (b := T + 2) sz_0 h).mono (by omega)
      simp only [List.mem_cons, List.not_mem_nil, or_false] at hq
      rcases hq with rfl | rfl | rfl
      · exact st (s1.mono (by omega))
      · exact st sv
      · exact st (s3.mono (by omega))
    repeat' left
    refine wf_lcM F (fun q => .bool (decide (0 < q))) [0 - u, 0 - (0 - v), 0 - w] (wi_seq ?_)
    repeat' left
    refine ⟨rfl, fun q hq => ?_, ?_⟩
    · have := sm2 q hq
      repeat' left
      exact ⟨rfl, rfl⟩
    repeat' left
    · rename_i hb2
      have d : ¬ 0 < 0 - u ∨ ¬ 0 < 0 - (0 - v) ∨ ¬ 0 < 0 - w := by simpa using hb2
      have c2 : ¬ (0 < 0 - u ∧ 0 < 0 - (0 - v) ∧ 0 < 0 - w) := fun c => d.elim (fun g => g c.1) fun d => d.elim (fun g => g c.2.1) fun g => g c.2.2
      rw [if_neg c2] at h
      exact wd_same h
    · rename_i hb2
      have c2 : 0 < 0 - u ∧ 0 < 0 - (0 - v) ∧ 0 < 0 - w := by simpa using hb2
      rw [if_pos c2] at h
      exact wd_same h
  · rename_i hb
    have c1 : ¬ (u < 0 ∧ 0 - v < 0 ∧ w < 0) := by
      intro c
      have : ((fun x => decide (u < 0) :: x) ((fun x => decide (0 - v < 0) :: x) ((fun x => decide (w < 0) :: x) []))).all id = true := by simpa using c
      rw [this] at hb
      cases hb
    rw [if_neg c1] at h
    have sm2 := sm
    repeat' left
    refine wf_lcM F (fun q => .bool (decide (0 < q))) [u, 0 - v, w] (wi_seq ?_)
    repeat' left
    refine ⟨rfl, fun q hq => ?_, ?_⟩
    · have := sm2 q hq
      repeat' left
      exact ⟨rfl, rfl⟩
    repeat' left
    · rename_i hb2
      have d : ¬ 0 < u ∨ ¬ 0 < 0 - v ∨ ¬ 0 < w := by simpa using hb2
      have c2 : ¬ (0 < u ∧ 0 < 0 - v ∧ 0 < w) := fun c => d.elim (fun g => g c.1) fun d => d.elim (fun g => g c.2.1) fun g => g c.2.2
      rw [if_neg c2] at h
      exact wd_same h
    · rename_i hb2
      have c2 : 0 < u ∧ 0 < 0 - v ∧ 0 < w := by simpa using hb2
      rw [if_pos c2] at h
      exact wd_same h
end

theorem dgetP_mk {a b i j : Nat} {v : PyData} : dgetP [(i : Int), (j : Int)] (mkP [(a : Int), (b : Int)] v) = if a = i ∧ b = j then some v else none := by
  unfold dgetP mkP pairI keyI
  simp only [List.map_cons, List.map_nil, intsD, Option.map_some, Option.bind_some]
  by_cases h : a = i ∧ b = j
  · obtain ⟨rfl, rfl⟩ := h; simp
  · rw [if_neg h, if_neg]
    intro e
    simp only [List.cons.injEq, and_true] at e
    exact h ⟨by omega, by omega⟩
def tkv (ls : List Hp) (r : Nat × Nat) : PyData := mkP [(r.1 : Int), (r.2 : Int)] (F (turnR (lAt ls r.1) (lAt ls r.2)))
theorem dget_tkv {ls : List Hp} {i j : Nat} : ∀ {rs : List (Nat × Nat)}, (i, j) ∈ rs → dget (rs.map (tkv ls)) [(i : Int), (j : Int)] = some (F (turnR (lAt ls i) (lAt ls j)))
  | [], h => by cases h
  | (a, b) :: rs, h => by
    have ih := dget_tkv (ls := ls) (i := i) (j := j) (rs := rs)
    unfold dget at ih ⊢
    rw [List.map_cons, List.findSome?_cons]
    have e : dgetP [(i : Int), (j : Int)] (tkv ls (a, b)) = if a = i ∧ b = j then some (F (turnR (lAt ls a) (lAt ls b))) else none := dgetP_mk
    rw [e]
    by_cases hc : a = i ∧ b = j
    · obtain ⟨rfl, rfl⟩ := hc
      simp
    · rw [if_neg hc]
      refine ih ?_
      rcases List.mem_cons.mp h with h | h
      · cases h; exact absurd ⟨rfl, rfl⟩ hc
      · exact h
theorem dget_no {ls : List Hp} {i j : Nat} : ∀ {rs : List (Nat × Nat)}, (i, j) ∉ rs → dget (rs.map (tkv ls)) [(i : Int), (j : Int)] = none
  | [], _ => rfl
  | (a, b) :: rs, h => by
    have ih := dget_no (ls := ls) (i := i) (j := j) (rs := rs) fun hm => h (List.mem_cons_of_mem _ hm)
    unfold dget at ih ⊢
    rw [List.map_cons, List.findSome?_cons]
    have e : dgetP [(i : Int), (j : Int)] (tkv ls (a, b)) = if a = i ∧ b = j then some (F (turnR (lAt ls a) (lAt ls b))) else none := dgetP_mk
    rw [e, if_neg (fun hc => h (by rw [hc.1, hc.2]; exact List.mem_cons_self ..))]
    exact ih
theorem dput_tkv {ls : List Hp} {i j : Nat} {rs : List (Nat × Nat)} (h : (i, j) ∉ rs) : dput (rs.map (tkv ls)) [(i : Int), (j : Int)] (F (turnR (lAt ls i) (lAt ls j))) = (rs ++ [(i, j)]).map (tkv ls) := by
  unfold dput
  rw [dget_no h, if_neg (by simp), List.map_append]
  rfl
theorem mem_up {n i a b : Nat} : (a, b) ∈ upN n i ↔ a = i ∧ i < b ∧ b < n := by
  unfold upN
  simp only [List.mem_map, List.mem_range, Prod.mk.injEq]
  constructor
  · rintro ⟨j, hj, rfl, rfl⟩
    omega
  · rintro ⟨rfl, h1, h2⟩
    exact ⟨b - (a + 1), by omega, rfl, by omega⟩
theorem mem_prs {n i j : Nat} : (i, j) ∈ prsN n ↔ i < j ∧ j < n := by
  unfold prsN
  simp only [List.mem_flatMap, List.mem_range, mem_up]
  constructor
  · rintro ⟨a, h1, rfl, h2, h3⟩
    exact ⟨h2, h3⟩
  · rintro ⟨h1, h2⟩
    exact ⟨i, by omega, rfl, h1, h2⟩
theorem dkey_tkv {ls : List Hp} {rs : List (Nat × Nat)} : (rs.map (tkv ls)).map dkey = rs.map PN := by
  rw [List.map_map]
  rfl
theorem third_ok {i j l n T : Nat} {u v w : Rat} {ws : List Wt} (hi : i < n) (hj : j < n) (hl : l < n) (s1 : Sz T u) (s2 : Sz T v) (s3 : Sz T w) (h : thirdW i j l u v w = some ws) : ws.length = 3 ∧ ∀ x ∈ ws, x.1 < n ∧ Sz (T + 4) x.2 := by
  have ng : ∀ {x : Rat} {m : Nat}, Sz m x → Sz (m + 2) (0 - x) := fun {x m} h => (sz_sub (a := 1) (b := m) sz_0 h).mono (by omega)
  unfold thirdW at h
  split at h
  · split at h
    · cases h
      refine ⟨rfl, fun x hx => ?_⟩
      simp only [List.mem_cons, List.not_mem_nil, or_false] at hx
      rcases hx with rfl | rfl | rfl
      · exact ⟨hi, (ng s1).mono (by omega)⟩
      · exact ⟨hj, ng (ng s2)⟩
      · exact ⟨hl, (ng s3).mono (by omega)⟩
    · cases h
  · split at h
    · cases h
      refine ⟨rfl, fun x hx => ?_⟩
      simp only [List.mem_cons, List.not_mem_nil, or_false] at hx
      rcases hx with rfl | rfl | rfl
      · exact ⟨hi, s1.mono (by omega)⟩
      · exact ⟨hj, (ng s2).mono (by omega)⟩
      · exact ⟨hl, s3.mono (by omega)⟩
    · cases h
section
local macro_rules | `(tactic| left) => `(tactic| refine ws_setD ?_)
theorem triple_wC {k H : Nat} {ls : List Hp} {st : Mem} {Q : WQ} (hL : ∀ l ∈ ls, Zl H l) (hl : ls.length = 12) (hH : H ≤ 400) (h : Q (.val (wsO (tripleW ls))) st) : wC (callN pr (k + 6)) i_triple_weights [.val (.list (ls.map HD))] st Q := by
  have eL : ((ls.map HD).length : Int) = (ls.length : Nat) := by rw [List.length_map]
  have atL : ∀ {i : Nat}, i < ls.length → idxD (.list (ls.map HD)) (.int (i : Nat)) = some (HD (lAt ls i)) := fun hi => idx_get (lAt_some hi)
  have zL : ∀ {i : Nat}, i < ls.length → Zl H (lAt ls i) := fun hi => hL _ (List.mem_of_getElem? (lAt_some hi))
  refine wc_call P_triple_weights rfl ?_
  repeat' left
  rw [eL]
  refine ws_newD ?_
  repeat' left
  refine ws_forM (fun i : Nat => .int (0 + (i : Nat))) (List.range ls.length) (fun done _ r s => (∃ a3 a4 a5 a6, r = [some (.val (.list (ls.map HD))), some (.val (.int (ls.length : Nat))), some (.dic st.length), a3, a4, a5, a6]) ∧ s = st ++ [(true, (done.flatMap (upN ls.length)).map (tkv ls))]) (wi_rng1 ?_)
  repeat' left
  refine ⟨by rw [hl]; decide, rfl, rfl, ⟨⟨_, _, _, _, rfl⟩, rfl⟩, ?_, ?_⟩
  · rintro r s ⟨⟨a3, a4, a5, a6, rfl⟩, rfl⟩
    have ep : (List.range ls.length).flatMap (upN ls.length) = prsN ls.length := rfl
    rw [ep]
    have ed : (st ++ [(true, (prsN ls.length).map (tkv ls))])[st.length]? = some (true, (prsN ls.length).map (tkv ls)) := by simp
    repeat' left
    refine ws_forX PN (wi_dic ?_)
    repeat' left
    refine ⟨_, _, _, rfl, ed, prsN ls.length, dkey_tkv, rfl, fun done _ r s => (∃ a3 a4 a5 a6, r = [some (.val (.list (ls.map HD))), some (.val (.int (ls.length : Nat))), some (.dic st.length), a3, a4, a5, a6] ∧ ∀ e ∈ done, triRW ls e = none) ∧ s = st ++ [(false, (prsN ls.length).map (tkv ls))], ⟨⟨_, _, _, _, rfl, by simp⟩, by simp⟩, ?_, ?_⟩
    · rintro r s ⟨⟨a3, a4, a5, a6, rfl, hno⟩, rfl⟩
      have e : tripleW ls = none := List.findSome?_eq_none_iff.mpr hno
      rw [e] at h
      repeat' left
      exact h
    rintro done ⟨i, j⟩ todo r s e0 ⟨⟨a3, a4, a5, a6, rfl, hno⟩, rfl⟩
    have hm : (i, j) ∈ prsN ls.length := by rw [e0]; simp
    obtain ⟨hij, hj⟩ := mem_prs.mp hm
    have hcase : tripleW ls = (triRW ls (i, j)).or (todo.findSome? (triRW ls)) := by
      unfold tripleW
      rw [e0, List.findSome?_append, List.findSome?_eq_none_iff.mpr hno, Option.none_or, List.findSome?_cons]
      cases triRW ls (i, j) <;> rfl
    have no : triRW ls (i, j) = none → ∀ e ∈ done ++ [(i, j)], triRW ls e = none := fun hn e he => by
      rcases List.mem_append.mp he with he | he
      · exact hno e he
      · rw [List.mem_singleton.mp he]; exact hn
    have ed2 : (st ++ [(false, (prsN ls.length).map (tkv ls))])[st.length]? = some (false, (prsN ls.length).map (tkv ls)) := by simp
    clear e0 hno ed
    refine wp_is rfl ?_
    repeat' left
    refine ws_forM (fun m : Nat => .int ((j : Int) + 1 + (m : Nat))) (List.range (ls.length - (j + 1))) (fun dn _ r s' => (∃ a5 a6, r = [some (.val (.list (ls.map HD))), some (.val (.int (ls.length : Nat))), some (.dic st.length), some (.val (.int (i : Nat))), some (.val (.int (j : Nat))), a5, a6] ∧ ∀ e ∈ dn, triW ls i j (j + 1 + e) = none) ∧ s' = st ++ [(false, (prsN ls.length).map (tkv ls))]) (wi_rng2 ?_)
    repeat' left
    refine ⟨by unfold lineN; show -2 ^ 60 ≤ (j : Int) + 1 ∧ (j : Int) + 1 < 2 ^ 60 ∧ _; omega, rng2_rows, rfl, ⟨⟨_, _, rfl, by simp⟩, rfl⟩, ?_, ?_⟩
    · rintro r s' ⟨⟨a5, a6, rfl, hno⟩, rfl⟩
      have e : triRW ls (i, j) = none := List.findSome?_eq_none_iff.mpr fun m hm => hno m hm
      repeat' left
      exact ⟨⟨_, _, _, _, rfl, no e⟩, rfl⟩
    rintro dn m td r s' e1 ⟨⟨a5, a6, rfl, hno⟩, rfl⟩
    obtain ⟨_, hmn⟩ := range_pre e1
    have hl3 : j + 1 + m < ls.length := by omega
    have hi : i < ls.length := by omega
    have t1 := turn_sz (zL hj) (zL hl3)
    have t2 := turn_sz (zL hi) (zL hl3)
    have t3 := turn_sz (zL hi) (zL hj)
    have g1 := dget_tkv (ls := ls) (mem_prs.mpr ⟨show j < j + 1 + m by omega, hl3⟩)
    have g2 := dget_tkv (ls := ls) (mem_prs.mpr ⟨show i < j + 1 + m by omega, hl3⟩)
    have g3 := dget_tkv (ls := ls) hm
    have hrow : triRW ls (i, j) = (triW ls i j (j + 1 + m)).or (td.findSome? fun m => triW ls i j (j + 1 + m)) := by
      unfold triRW
      rw [e1, List.findSome?_append, List.findSome?_eq_none_iff.mpr hno, Option.none_or, List.findSome?_cons]
      cases triW ls i j (j + 1 + m) <;> rfl
    have nx : triW ls i j (j + 1 + m) = none → ∀ e ∈ dn ++ [m], triW ls i j (j + 1 + e) = none := fun hn e he => by
      rcases List.mem_append.mp he with he | he
      · exact hno e he
      · rw [List.mem_singleton.mp he]; exact hn
    have ec : ((j + 1 + m : Nat) : Int) = (j : Int) + 1 + (m : Nat) := by omega
    have hthird : ∀ {k : Nat} {Q : WQ}, Q (.val (wsO (thirdW i j (j + 1 + m) (turnR (lAt ls j) (lAt ls (j + 1 + m))) (turnR (lAt ls i) (lAt ls (j + 1 + m))) (turnR (lAt ls i) (lAt ls j))))) (st ++ [(false, (prsN ls.length).map (tkv ls))]) → wC (callN pr (k + 5)) i_third_weights [.dic st.length, .val (.tuple [.int (i : Nat), .int (j : Nat), .int ((j : Int) + 1 + (m : Nat))])] (st ++ [(false, (prsN ls.length).map (tkv ls))]) Q := fun h => by
      rw [← ec]
      exact third_wC ed2 g1 g2 g3 t1 t2 t3 (by omega) h
    refine wp_is rfl ?_
    repeat' left
    refine hthird ?_
    cases hw : thirdW i j (j + 1 + m) (turnR (lAt ls j) (lAt ls (j + 1 + m))) (turnR (lAt ls i) (lAt ls (j + 1 + m))) (turnR (lAt ls i) (lAt ls j)) with
    | none =>
      have hn : triW ls i j (j + 1 + m) = none := by unfold triW; rw [hw]; rfl
      repeat' left
      exact ⟨⟨_, _, rfl, nx hn⟩, rfl⟩
    | some ws =>
      obtain ⟨w1, w2⟩ := third_ok hi hj hl3 t1 t2 t3 hw
      repeat' left
      refine can_wC (H := H) (T := 4 * H + 1 + 4) hL w2 hl (by omega) (by omega) ?_
      cases hc : canNot ls ws with
      | false =>
        have hn : triW ls i j (j + 1 + m) = none := by unfold triW; rw [hw, Option.bind_some, if_neg (by simp [hc])]
        repeat' left
        exact ⟨⟨_, _, rfl, nx hn⟩, rfl⟩
      | true =>
        have hs : triW ls i j (j + 1 + m) = some ws := by unfold triW; rw [hw, Option.bind_some, if_pos hc]
        rw [hcase, hrow, hs] at h
        repeat' left
        exact h
  rintro done i todo r s e0 ⟨⟨a3, a4, a5, a6, rfl⟩, rfl⟩
  obtain ⟨d1, d2⟩ := range_pre e0
  refine wp_is rfl ?_
  simp only [Int.zero_add]
  repeat' left
  refine ws_forM (fun j : Nat => .int ((i : Int) + 1 + (j : Nat))) (List.range (ls.length - (i + 1))) (fun dn _ r s => (∃ a4 a5 a6, r = [some (.val (.list (ls.map HD))), some (.val (.int (ls.length : Nat))), some (.dic st.length), some (.val (.int (i : Nat))), a4, a5, a6]) ∧ s = st ++ [(true, (done.flatMap (upN ls.length) ++ dn.map fun j => (i, i + 1 + j)).map (tkv ls))]) (wi_rng2 ?_)
  repeat' left
  refine ⟨by unfold lineN; show -2 ^ 60 ≤ (i : Int) + 1 ∧ (i : Int) + 1 < 2 ^ 60 ∧ _; omega, rng2_rows, rfl, ⟨⟨_, _, _, rfl⟩, by simp⟩, ?_, ?_⟩
  · rintro r s ⟨⟨a4, a5, a6, rfl⟩, rfl⟩
    repeat' left
    refine ⟨⟨_, _, _, _, rfl⟩, ?_⟩
    rw [List.flatMap_append]
    simp [upN]
  rintro dn j td r s e1 ⟨⟨a4, a5, a6, rfl⟩, rfl⟩
  obtain ⟨j1, j2⟩ := range_pre e1
  have hj : i + 1 + j < ls.length := by omega
  have ec : ((i + 1 + j : Nat) : Int) = (i : Int) + 1 + (j : Nat) := by omega
  have ix := atL d2
  have iy := atL hj
  rw [ec] at iy
  refine wp_is rfl ?_
  repeat' left
  refine turn_wC (zL d2) (zL hj) hH ?_
  repeat' left
  have fresh : (i, i + 1 + j) ∉ done.flatMap (upN ls.length) ++ dn.map fun j => (i, i + 1 + j) := by
    intro hm
    rcases List.mem_append.mp hm with hm | hm
    · obtain ⟨a, ha, hb⟩ := List.mem_flatMap.mp hm
      obtain ⟨rfl, _⟩ := mem_up.mp hb
      obtain ⟨p, hp⟩ := List.getElem_of_mem ha
      obtain ⟨hp1, hp2⟩ := hp
      have h1 : (List.range ls.length)[p]? = some i := by rw [e0, List.getElem?_append_left hp1, List.getElem?_eq_getElem hp1, hp2]
      obtain ⟨q1, q2⟩ := List.getElem?_eq_some_iff.mp h1
      rw [List.getElem_range] at q2
      omega
    · obtain ⟨a, ha, hb⟩ := List.mem_map.mp hm
      simp only [Prod.mk.injEq, true_and] at hb
      obtain ⟨p, hp⟩ := List.getElem_of_mem ha
      obtain ⟨hp1, hp2⟩ := hp
      have h1 : (List.range (ls.length - (i + 1)))[p]? = some a := by rw [e1, List.getElem?_append_left hp1, List.getElem?_eq_getElem hp1, hp2]
      obtain ⟨q1, q2⟩ := List.getElem?_eq_some_iff.mp h1
      rw [List.getElem_range] at q2
      omega
  have hlen : (done.flatMap (upN ls.length) ++ dn.map fun j => (i, i + 1 + j)).length < lineN := by
    rw [List.length_append, List.length_map]
    have hu : ∀ l : List Nat, (l.flatMap (upN ls.length)).length ≤ l.length * ls.length := fun l => by
      induction l with
      | nil => simp
      | cons a l ih =>
        rw [List.flatMap_cons, List.length_append, List.length_cons, Nat.succ_mul]
        have : (upN ls.length a).length ≤ ls.length := by simp [upN]
        omega
    have h1 := hu done
    have h2 : done.length * ls.length ≤ 12 * 12 := Nat.mul_le_mul (by omega) (by omega)
    unfold lineN
    omega
  refine ⟨_, _, [(i : Int), ((i + 1 + j : Nat) : Int)], rfl, by rw [ec]; rfl, at_end rfl, by rw [List.length_map]; exact hlen, ?_⟩
  rw [set_end rfl, dput_tkv fresh]
  repeat' left
  refine ⟨⟨_, _, _, rfl⟩, ?_⟩
  simp only [List.map_append, List.append_assoc, List.map_cons, List.map_nil]
end
def farW (f g : Fl) (a b c d : Cn) : Option (List Wt) := if 0 < 0 - a.m + d.m + g.w then (if 0 < b.m + (0 - c.m) + f.w then none else some [(1, 1), (2, 1), (4, 1)]) else some [(0, 1), (3, 1), (5, 1)]
/-- the weights of a row of a paper -/
def weightsW (f g : Fl) (p q : Rat) (a b c d : Cn) : Option (List Wt) :=
  (farW f g a b c d).or ((singleW (lin12 f g p q a b c d)).or ((pairW (lin12 f g p q a b c d)).or (tripleW (lin12 f g p q a b c d))))
theorem weights_wC {k : Nat} {D : Int} {n i i' : Nat} {x x' y y' bd bd' z ea eb ec ed : PyData} {f g : Fl} {p q : Rat} {a b c d : Cn} {st : Mem} {Q : WQ} (t : Tw D n x x' y y' bd bd' z f g p q) (h1 : Pc y f.cs i a b ea eb) (h2 : Pc y' g.cs i' c d ec ed) (hab : a.m < b.m) (hcd : c.m < d.m)
    (h : Q (.val (wsO (weightsW f g p q a b c d))) st) : wC (callN pr (k + 7)) i_weights_of [.val (.list ((lin12 f g p q a b c d).map HD))] st Q := by
  have n100 := t.n100
  have il := t.il h1.ma h1.mb h2.ma h2.mb hab hcd
  have hL : ∀ l ∈ lin12 f g p q a b c d, Zl (3 * n + 5) l := fun l hl => (il l hl).zl
  refine wc_call P_weights_of rfl ?_
  repeat' left
  have el : (lin12 f g p q a b c d).map HD = (spanH a b c d).map HD ++ ((winH f g).map HD ++ (lin12 f g p q a b c d).tail.tail.tail.tail.tail.tail.map HD) := rfl
  rw [el]
  refine far_wC t h1 h2 _ ?_
  rw [← el]
  have l12 : (lin12 f g p q a b c d).length = 12 := rfl
  have hH : 3 * n + 5 ≤ 400 := by omega
  have farT : ∀ (i j m : Nat), farO f g a b c d = .tuple [.int (i : Nat), .int (j : Nat), .int (m : Nat)] → weightsW f g p q a b c d = some [(i, 1), (j, 1), (m, 1)] → Q (.val (.tuple [.tuple [.int (i : Nat), F 1], .tuple [.int (j : Nat), F 1], .tuple [.int (m : Nat), F 1]])) st := fun i j m _ e2 => by
    rw [e2] at h
    exact h
  by_cases g1 : 0 < 0 - a.m + d.m + g.w
  · by_cases g2 : 0 < b.m + (0 - c.m) + f.w
    · have e1 : farO f g a b c d = .none := by unfold farO; rw [if_pos g1, if_pos g2]
      have e2 : weightsW f g p q a b c d = (singleW (lin12 f g p q a b c d)).or ((pairW (lin12 f g p q a b c d)).or (tripleW (lin12 f g p q a b c d))) := by
        unfold weightsW farW
        rw [if_pos g1, if_pos g2]
        rfl
      rw [e2] at h
      rw [e1]
      generalize hls : lin12 f g p q a b c d = ls at *
      clear hls el il
      repeat' left
      refine ws_forU (wi_seq ?_)
      repeat' left
      refine single_wC hL l12 hH ?_
      repeat' left
      refine pair_wC hL l12 hH ?_
      cases h1 : singleW ls with
      | some ws =>
        rw [h1] at h
        repeat' left
        exact wd_same h
      | none =>
        rw [h1, Option.none_or] at h
        cases h2 : pairW ls with
        | some ws =>
          rw [h2] at h
          repeat' left
          exact wd_same h
        | none =>
          rw [h2, Option.none_or] at h
          repeat' left
          refine triple_wC hL l12 hH ?_
          repeat' left
          exact wd_same h
    · have e1 : farO f g a b c d = .tuple [.int 1, .int 2, .int 4] := by unfold farO; rw [if_pos g1, if_neg g2]
      have e2 : weightsW f g p q a b c d = some [(1, 1), (2, 1), (4, 1)] := by unfold weightsW farW; rw [if_pos g1, if_neg g2]; rfl
      have q1 := farT 1 2 4 e1 e2
      rw [e1]
      repeat' left
      refine wf_lcU (wi_seq ?_)
      repeat' left
      exact wd_same q1
  · have e1 : farO f g a b c d = .tuple [.int 0, .int 3, .int 5] := by unfold farO; rw [if_neg g1]
    have e2 : weightsW f g p q a b c d = some [(0, 1), (3, 1), (5, 1)] := by unfold weightsW farW; rw [if_neg g1]; rfl
    have q1 := farT 0 3 5 e1 e2
    rw [e1]
    repeat' left
    refine wf_lcU (wi_seq ?_)
    repeat' left
    exact wd_same q1

section
variable {D : Int} {n : Nat} {x x' y y' bd bd' z : PyData} {f g : Fl} {p q : Rat}
def wtsAt (f g : Fl) (p q : Rat) (r : Nat × Nat) : Option (List Wt) := match f.cs[r.1]?, f.cs[r.1 + 1]?, g.cs[r.2]?, g.cs[r.2 + 1]? with
  | some a, some b, some c, some d => weightsW f g p q a b c d
  | _, _, _, _ => none
def rowD (f g : Fl) (p q : Rat) (r : Nat × Nat) : PyData := .tuple [.int (r.1 : Nat), .int (r.2 : Nat), wsO (wtsAt f g p q r)]
def paperD (f g : Fl) (p q : Rat) : PyData := .tuple ((pcsN (f.cs.length - 1) (g.cs.length - 1)).map (rowD f g p q))
/-- what meet_of tells -/
def meetD (f g : Fl) (p q : Rat) : PyData := match metW f g p q with
  | some r => .tuple [.str "meet", F r.1, F r.2]
  | none => .tuple [.str "apart", paperD f g p q]
theorem meetof_wC {k : Nat} {st : Mem} {Q : WQ} (t : Tw D n x x' y y' bd bd' z f g p q) (l1 : f.cs.length ≤ 100) (l2 : g.cs.length ≤ 100) (h : Q (.val (meetD f g p q)) st) : wC (callN pr (k + 11)) i_meet_of [.val x, .val x', .val z] st Q := by
  unfold meetD at h
  refine wc_call P_meet_of rfl ?_
  repeat' left
  refine met_wC t l1 l2 ?_
  cases hm : metW f g p q with
  | some r =>
    rw [hm] at h
    repeat' left
    exact wd_same h
  | none =>
    rw [hm] at h
    repeat' left
    refine wf_lcM PN (rowD f g p q) (pcsN (f.cs.length - 1) (g.cs.length - 1)) (wi_seq ?_)
    repeat' left
    refine pieces_wC t.hf t.hg l1 l2 ?_
    repeat' left
    refine ⟨rfl, fun r hr => ?_, ?_⟩
    · obtain ⟨hi, hj⟩ := mem_pcs.mp (show (r.1, r.2) ∈ _ from hr)
      obtain ⟨a, b, c, d, ea, eb, ec, ed, _⟩ := atW_is (f := f) (g := g) (p := p) (q := q) (r := r) hi hj
      obtain ⟨u, v, h1⟩ := t.hf.pl.pc ea eb
      obtain ⟨u', v', h2⟩ := t.hg.pl.pc ec ed
      have ew : wtsAt f g p q r = weightsW f g p q a b c d := by unfold wtsAt; rw [ea, eb, ec, ed]
      refine wp_is rfl ?_
      repeat' left
      refine twelve_wC t h1 h2 (next_lt t.gf.p ea eb) (next_lt t.gg.p ec ed) ?_
      repeat' left
      refine weights_wC t h1 h2 (next_lt t.gf.p ea eb) (next_lt t.gg.p ec ed) ?_
      repeat' left
      refine ⟨rfl, ?_⟩
      unfold rowD
      rw [ew]
    repeat' left
    exact wd_same h
/-- own moments within two pieces, one of each, that are a meet -/
def May (f g : Fl) (p q : Rat) : Prop := ∃ i j a b c d, ∃ r : Pt, f.cs[i]? = some a ∧ f.cs[i + 1]? = some b ∧ g.cs[j]? = some c ∧ g.cs[j + 1]? = some d ∧ Feas f g p q a b c d r
theorem metW_no (h : metW f g p q = none) : ¬ May f g p q := by
  rintro ⟨i, j, a, b, c, d, r, ea, eb, ec, ed, hF⟩
  have hi := (List.getElem?_eq_some_iff.mp eb).1
  have hj := (List.getElem?_eq_some_iff.mp ed).1
  have := List.findSome?_eq_none_iff.mp h (i, j) (mem_pcs.mpr ⟨by omega, by omega⟩)
  unfold atW at this
  simp only [ea, eb, ec, ed] at this
  exact meetW_no hF this
theorem metW_yes {r : Pt} (hf : f.cs.Pairwise (fun a b => a.m < b.m)) (hg : g.cs.Pairwise (fun a b => a.m < b.m)) (h : metW f g p q = some r) : ∃ i j a b c d, f.cs[i]? = some a ∧ f.cs[i + 1]? = some b ∧ g.cs[j]? = some c ∧ g.cs[j + 1]? = some d ∧ Feas f g p q a b c d r := by
  obtain ⟨⟨i, j⟩, hm, he⟩ := List.exists_of_findSome?_eq_some h
  obtain ⟨hi, hj⟩ := mem_pcs.mp hm
  obtain ⟨a, b, c, d, ea, eb, ec, ed, ew⟩ := atW_is (f := f) (g := g) (p := p) (q := q) (r := (i, j)) hi hj
  rw [ew] at he
  exact ⟨i, j, a, b, c, d, ea, eb, ec, ed, meetW_ok (next_lt hf ea eb) (next_lt hg ec ed) he⟩
theorem met_iff (hf : f.cs.Pairwise (fun a b => a.m < b.m)) (hg : g.cs.Pairwise (fun a b => a.m < b.m)) : (metW f g p q).isSome = true ↔ May f g p q := by
  constructor
  · intro h
    obtain ⟨r, hr⟩ := Option.isSome_iff_exists.mp h
    obtain ⟨i, j, a, b, c, d, h1, h2, h3, h4, h5⟩ := metW_yes hf hg hr
    exact ⟨i, j, a, b, c, d, r, h1, h2, h3, h4, h5⟩
  · intro h
    cases hm : metW f g p q with
    | some r => rfl
    | none => exact absurd h (metW_no hm)
end

/-- where the straight line of a piece is at a moment -/
def posR (x y : Rat) (a b : Cn) (s : Rat) : Rat := rateR x y a b * s + baseR x y a b
def nearQ (u v r : Rat) : Prop := u - v < r ∧ v - u < r
structure MeetAt (f g : Fl) (p q : Rat) (a b c d : Cn) (s t : Rat) : Prop where
  s0 : a.m ≤ s
  s1 : s < b.m
  t0 : c.m ≤ t
  t1 : t < d.m
  w0 : t ≤ s + f.w
  w1 : s ≤ t + g.w
  x : nearQ (posR a.x b.x a b s) (posR c.x d.x c d t) (rch f g p)
  y : nearQ (posR a.y b.y a b s) (posR c.y d.y c d t) (rch f g p)
  z : nearQ (posR a.z b.z a b s) (posR c.z d.z c d t) (rchV f g q)
theorem side_iff {x y u v r : Rat} {a b c d : Cn} {s t : Rat} : (∀ l ∈ sideH x y u v r a b c d, 0 < l.wt (s, t)) ↔ nearQ (posR x y a b s) (posR u v c d t) r := by
  unfold sideH nearQ posR Hp.wt
  simp only [List.mem_cons, List.not_mem_nil, or_false, forall_eq_or_imp, forall_eq]
  generalize rateR x y a b = p
  generalize baseR x y a b = e
  generalize rateR u v c d = q
  generalize baseR u v c d = h
  constructor
  · rintro ⟨h1, h2⟩
    constructor <;> grind
  · rintro ⟨h1, h2⟩
    constructor <;> grind
theorem feas_iff {f g : Fl} {p q : Rat} {a b c d : Cn} {s t : Rat} : Feas f g p q a b c d (s, t) ↔ MeetAt f g p q a b c d s t := by
  constructor
  · rintro ⟨h1, h2⟩
    have k0 := h1 ⟨1, 0, 0 - a.m⟩ (by simp [lin12, spanH])
    have k2 := h1 ⟨0, 1, 0 - c.m⟩ (by simp [lin12, spanH])
    have k4 := h1 ⟨1, -1, f.w⟩ (by simp [lin12, restH, winH])
    have k5 := h1 ⟨-1, 1, g.w⟩ (by simp [lin12, restH, winH])
    have k1 := h2 ⟨-1, 0, b.m⟩ (by simp [openH])
    have k3 := h2 ⟨0, -1, d.m⟩ (by simp [openH])
    unfold Hp.wt at k0 k1 k2 k3 k4 k5
    simp only at k0 k1 k2 k3 k4 k5
    refine ⟨by grind, by grind, by grind, by grind, by grind, by grind, side_iff.mp fun l hl => h2 l ?_, side_iff.mp fun l hl => h2 l ?_, side_iff.mp fun l hl => h2 l ?_⟩
    · unfold openH; simp only [List.mem_append]; exact .inr (.inl hl)
    · unfold openH; simp only [List.mem_append]; exact .inr (.inr (.inl hl))
    · unfold openH; simp only [List.mem_append]; exact .inr (.inr (.inr hl))
  · intro h
    have o : ∀ l ∈ openH f g p q a b c d, 0 < l.wt (s, t) := fun l hl => by
      unfold openH at hl
      simp only [List.mem_append, List.mem_cons, List.not_mem_nil, or_false] at hl
      rcases hl with (rfl | rfl) | hl | hl | hl
      · show 0 < -1 * s + 0 * t + b.m
        have := h.s1; grind
      · show 0 < 0 * s + -1 * t + d.m
        have := h.t1; grind
      · exact side_iff.mpr h.x l hl
      · exact side_iff.mpr h.y l hl
      · exact side_iff.mpr h.z l hl
    refine ⟨fun l hl => ?_, o⟩
    unfold lin12 restH spanH winH at hl
    simp only [List.mem_append, List.mem_cons, List.not_mem_nil, or_false] at hl
    rcases hl with (rfl | rfl | rfl | rfl) | (rfl | rfl) | hl | hl | hl
    · show 0 ≤ 1 * s + 0 * t + (0 - a.m)
      have := h.s0; grind
    · show 0 ≤ -1 * s + 0 * t + b.m
      have := h.s1; grind
    · show 0 ≤ 0 * s + 1 * t + (0 - c.m)
      have := h.t0; grind
    · show 0 ≤ 0 * s + -1 * t + d.m
      have := h.t1; grind
    · show 0 ≤ 1 * s + -1 * t + f.w
      have := h.w0; grind
    · show 0 ≤ -1 * s + 1 * t + g.w
      have := h.w1; grind
    · exact Rat.le_of_lt (side_iff.mpr h.x l hl)
    · exact Rat.le_of_lt (side_iff.mpr h.y l hl)
    · exact Rat.le_of_lt (side_iff.mpr h.z l hl)
theorem nearQ_comm {u v r : Rat} (h : nearQ u v r) : nearQ v u r := ⟨h.2, h.1⟩
theorem rch_comm {f g : Fl} {p : Rat} : rch f g p = rch g f p := by unfold rch; grind
theorem rchV_comm {f g : Fl} {p : Rat} : rchV f g p = rchV g f p := by unfold rchV; grind
theorem MeetAt.swap {f g : Fl} {p q : Rat} {a b c d : Cn} {s t : Rat} (h : MeetAt f g p q a b c d s t) : MeetAt g f p q c d a b t s :=
  ⟨h.t0, h.t1, h.s0, h.s1, h.w1, h.w0, by rw [rch_comm]; exact nearQ_comm h.x, by rw [rch_comm]; exact nearQ_comm h.y, by rw [rchV_comm]; exact nearQ_comm h.z⟩
theorem May.swap {f g : Fl} {p q : Rat} (h : May f g p q) : May g f p q := by
  obtain ⟨i, j, a, b, c, d, r, h1, h2, h3, h4, h5⟩ := h
  exact ⟨j, i, c, d, a, b, (r.2, r.1), h3, h4, h1, h2, feas_iff.mpr (feas_iff.mp (show Feas f g p q a b c d (r.1, r.2) from h5)).swap⟩
theorem posR_stay {x : Rat} {a b : Cn} {s : Rat} : posR x x a b s = x := by
  unfold posR baseR rateR
  rw [Rat.div_def]
  grind
/-- two that stay, each at its spot -/
def stayF (m l : Rat) (c : Cn) (u v w : Rat) : Fl := ⟨[⟨m, c.x, c.y, c.z⟩, ⟨m + l, c.x, c.y, c.z⟩], u, v, w⟩
theorem may_stay {m l m' l' : Rat} {c e : Cn} {u v w u' v' w' p q : Rat} : May (stayF m l c u v w) (stayF m' l' e u' v' w') p q ↔
    (∃ s t, m ≤ s ∧ s < m + l ∧ m' ≤ t ∧ t < m' + l' ∧ t ≤ s + w ∧ s ≤ t + w') ∧ nearQ c.x e.x (p + (u + u')) ∧ nearQ c.y e.y (p + (u + u')) ∧ nearQ c.z e.z (q + (v + v')) := by
  constructor
  · rintro ⟨i, j, a, b, c', d, r, h1, h2, h3, h4, h5⟩
    have hi : i = 0 := by
      have := (List.getElem?_eq_some_iff.mp h2).1
      simp [stayF] at this
      omega
    have hj : j = 0 := by
      have := (List.getElem?_eq_some_iff.mp h4).1
      simp [stayF] at this
      omega
    subst hi hj
    simp only [stayF, List.getElem?_cons_zero, List.getElem?_cons_succ, Option.some.injEq] at h1 h2 h3 h4
    subst h1 h2 h3 h4
    have h := feas_iff.mp (show Feas _ _ p q _ _ _ _ (r.1, r.2) from h5)
    refine ⟨⟨r.1, r.2, h.s0, h.s1, h.t0, h.t1, h.w0, h.w1⟩, ?_, ?_, ?_⟩
    · have := h.x; rw [posR_stay, posR_stay] at this; exact this
    · have := h.y; rw [posR_stay, posR_stay] at this; exact this
    · have := h.z; rw [posR_stay, posR_stay] at this; exact this
  · rintro ⟨⟨s, t, h1, h2, h3, h4, h5, h6⟩, hx, hy, hz⟩
    exact ⟨0, 0, _, _, _, _, (s, t), rfl, rfl, rfl, rfl, feas_iff.mpr ⟨h1, h2, h3, h4, h5, h6, by rw [posR_stay, posR_stay]; exact hx, by rw [posR_stay, posR_stay]; exact hy, by rw [posR_stay, posR_stay]; exact hz⟩⟩

theorem frG {t b d : Int} (M : Nat) (hb : 0 < b) (hg : Int.gcd t b = 1) (e : b * d = 6) (h : (t * d).natAbs ≤ M * 6) (h0 : 0 ≤ t) : ∃ q, PyData.tuple [.int t, .int b] = F q ∧ Ov 6 M q ∧ 0 ≤ q ∧ (0 < t → 0 < q) :=
  ⟨_, F_of hb hg, gr_part (D := 6) hb (by omega) (by decide) h, rat_div_nonneg h0 (by omega), fun h => rat_div_pos h hb⟩
theorem ov_zero6 : Ov 6 40 0 := ⟨0, by rw [Rat.div_def]; grind, by simp⟩
theorem some6G {d : PyData} (h : d ∈ [PyData.tuple [.int 0, .int 1], .tuple [.int 1, .int 2], .tuple [.int 1, .int 1], .tuple [.int 1, .int 3], .tuple [.int 3, .int 1], .tuple [.int 40, .int 1]]) : ∃ q, d = F q ∧ Ov 6 40 q ∧ 0 ≤ q := by
  simp only [List.mem_cons, List.not_mem_nil, or_false] at h
  have cut : ∀ {x : PyData}, (∃ q, x = F q ∧ Ov 6 40 q ∧ 0 ≤ q ∧ ((0 : Int) < 1 → True)) → ∃ q, x = F q ∧ Ov 6 40 q ∧ 0 ≤ q := fun ⟨q, a, b, c, _⟩ => ⟨q, a, b, c⟩
  rcases h with rfl | rfl | rfl | rfl | rfl | rfl
  · obtain ⟨q, a, b, c, _⟩ := frG (t := 0) (b := 1) (d := 6) 40 (by decide) (by decide) (by decide) (by decide) (by decide); exact ⟨q, a, b, c⟩
  · obtain ⟨q, a, b, c, _⟩ := frG (t := 1) (b := 2) (d := 3) 40 (by decide) (by decide) (by decide) (by decide) (by decide); exact ⟨q, a, b, c⟩
  · obtain ⟨q, a, b, c, _⟩ := frG (t := 1) (b := 1) (d := 6) 40 (by decide) (by decide) (by decide) (by decide) (by decide); exact ⟨q, a, b, c⟩
  · obtain ⟨q, a, b, c, _⟩ := frG (t := 1) (b := 3) (d := 2) 40 (by decide) (by decide) (by decide) (by decide) (by decide); exact ⟨q, a, b, c⟩
  · obtain ⟨q, a, b, c, _⟩ := frG (t := 3) (b := 1) (d := 6) 40 (by decide) (by decide) (by decide) (by decide) (by decide); exact ⟨q, a, b, c⟩
  · obtain ⟨q, a, b, c, _⟩ := frG (t := 40) (b := 1) (d := 6) 40 (by decide) (by decide) (by decide) (by decide) (by decide); exact ⟨q, a, b, c⟩
theorem some5G {d : PyData} (h : d ∈ [PyData.tuple [.int 1, .int 1], .tuple [.int 2, .int 1], .tuple [.int 3, .int 2], .tuple [.int 1, .int 3], .tuple [.int 5, .int 1]]) : ∃ q, d = F q ∧ Ov 6 5 q ∧ 0 < q := by
  simp only [List.mem_cons, List.not_mem_nil, or_false] at h
  rcases h with rfl | rfl | rfl | rfl | rfl
  · obtain ⟨q, a, b, _, c⟩ := frG (t := 1) (b := 1) (d := 6) 5 (by decide) (by decide) (by decide) (by decide) (by decide); exact ⟨q, a, b, c (by decide)⟩
  · obtain ⟨q, a, b, _, c⟩ := frG (t := 2) (b := 1) (d := 6) 5 (by decide) (by decide) (by decide) (by decide) (by decide); exact ⟨q, a, b, c (by decide)⟩
  · obtain ⟨q, a, b, _, c⟩ := frG (t := 3) (b := 2) (d := 3) 5 (by decide) (by decide) (by decide) (by decide) (by decide); exact ⟨q, a, b, c (by decide)⟩
  · obtain ⟨q, a, b, _, c⟩ := frG (t := 1) (b := 3) (d := 2) 5 (by decide) (by decide) (by decide) (by decide) (by decide); exact ⟨q, a, b, c (by decide)⟩
  · obtain ⟨q, a, b, _, c⟩ := frG (t := 5) (b := 1) (d := 6) 5 (by decide) (by decide) (by decide) (by decide) (by decide); exact ⟨q, a, b, c (by decide)⟩
/-- bounds that are drawn -/
def Bd6 (u : Rat) : Prop := Ov 6 40 u ∧ 0 ≤ u
theorem boundsG_wC {k n : Nat} {b st : Mem} {Q : WQ} (T : Tp b n st) (h : ∀ u v w st', Tp b n st' → Bd6 u → Bd6 v → Bd6 w → Q (.val (.tuple [F u, F v, F w])) st') : wC (callN pr (k + 2)) i__law_bounds [.loc n] st Q := by
  have Tb := T
  have T0 := T.base
  have h' : ∀ u v w st', Tp st n st' → Bd6 u → Bd6 v → Bd6 w → Q (.val (.tuple [F u, F v, F w])) st' := fun u v w st' T' => h u v w st' (Tb.trans T')
  have b0 : Bd6 0 := ⟨ov_zero6, Rat.le_refl⟩
  clear h T
  refine wc_call P__law_bounds rfl ?_
  repeat' left
  · rename_i T1 hb
    exact wd_tp (b := st) T1 (h' 0 0 0 _ T1 b0 b0 b0)
  · rename_i v s1 hv0 hv1 T1
    refine wx_any hv0 (by simp only [List.length_cons, List.length_nil]; omega) fun d hd => ?_
    obtain ⟨u, rfl, su⟩ := some6G hd
    repeat' left
    rename_i v2 s2 hw0 hw1 T2
    refine wx_any hw0 (by simp only [List.length_cons, List.length_nil]; omega) fun d hd => ?_
    obtain ⟨u2, rfl, su2⟩ := some6G hd
    repeat' left
    rename_i v3 s3 hx0 hx1 T3
    refine wx_any hx0 (by simp only [List.length_cons, List.length_nil]; omega) fun d hd => ?_
    obtain ⟨u3, rfl, su3⟩ := some6G hd
    repeat' left
    exact wd_tp (b := st) T3 (h' u u2 u3 _ T3 su su2 su3)
theorem apartG_wC {k n : Nat} {b st : Mem} {Q : WQ} (T : Tp b n st) (h : ∀ u v st', Tp b n st' → Ov 6 5 u → 0 < u → Ov 6 5 v → 0 < v → Q (.val (.tuple [F u, F v])) st') : wC (callN pr (k + 2)) i__law_apart [.loc n] st Q := by
  have Tb := T
  have T0 := T.base
  have h' : ∀ u v st', Tp st n st' → Ov 6 5 u → 0 < u → Ov 6 5 v → 0 < v → Q (.val (.tuple [F u, F v])) st' := fun u v st' T' => h u v st' (Tb.trans T')
  clear h T
  refine wc_call P__law_apart rfl ?_
  repeat' left
  rename_i v s1 hv0 hv1 T1
  refine wx_any hv0 (by simp only [List.length_cons, List.length_nil]; omega) fun d hd => ?_
  obtain ⟨u, rfl, su, pu⟩ := some5G hd
  repeat' left
  rename_i v2 s2 hw0 hw1 T2
  refine wx_any hw0 (by simp only [List.length_cons, List.length_nil]; omega) fun d hd => ?_
  obtain ⟨u2, rfl, su2, pu2⟩ := some5G hd
  repeat' left
  exact wd_tp (b := st) T2 (h' u u2 _ T2 su pu su2 pu2)

theorem meet_word {f g : Fl} {p q : Rat} {b : Bool} (hf : f.cs.Pairwise (fun a b => a.m < b.m)) (hg : g.cs.Pairwise (fun a b => a.m < b.m)) (hb : May f g p q ↔ b = true) : idxD (meetD f g p q) (.int 0) = some (.str (cond b "meet" "apart")) := by
  have h := met_iff (p := p) (q := q) hf hg
  unfold meetD
  cases hm : metW f g p q with
  | some r =>
    rw [hm] at h
    have : b = true := hb.mp (h.mp rfl)
    subst this
    rfl
  | none =>
    rw [hm] at h
    have : b = false := by
      cases b
      · rfl
      · exact absurd (h.mpr (hb.mpr rfl)) (by simp)
    subst this
    rfl
theorem told_wC {D : Int} {n k : Nat} {x x' y y' bd bd' z : PyData} {f g : Fl} {p q : Rat} {st : Mem} {Q : WQ} (b : Bool) (t : Tw D n x x' y y' bd bd' z f g p q) (l1 : f.cs.length ≤ 100) (l2 : g.cs.length ≤ 100) (hb : May f g p q ↔ b = true) (h : ∀ d, idxD d (.int 0) = some (.str (cond b "meet" "apart")) → Q (.val d) st) : wC (callN pr (k + 11)) i_meet_of [.val x, .val x', .val z] st Q :=
  meetof_wC t l1 l2 (h _ (meet_word t.gf.p t.gg.p hb))
def D34 : Int := 60000000000000000000000
theorem w34 {M : Nat} {q : Rat} (h : Ov 6 M q) (hM : M ≤ 200) : Wn D34 84 q := by
  obtain ⟨i, rfl, hi⟩ := h
  refine ⟨i * 10000000000000000000000, ?_, ?_⟩
  · rw [Rat.intCast_mul, show D34 = ((6 : Nat) : Int) * 10000000000000000000000 from rfl, Rat.intCast_mul]
    rw [show (i : Rat) / (((6 : Nat) : Int) : Rat) * ((((6 : Nat) : Int) : Rat) * ((10000000000000000000000 : Int) : Rat)) = ((i : Rat) / (((6 : Nat) : Int) : Rat) * (((6 : Nat) : Int) : Rat)) * ((10000000000000000000000 : Int) : Rat) by rw [Rat.mul_assoc], Rat.div_mul_cancel (by decide)]
  · rw [Int.natAbs_mul]
    have : (10000000000000000000000 : Int).natAbs = 10000000000000000000000 := rfl
    rw [this]
    have e : (2 : Nat) ^ 84 = 19342813113834066795298816 := by decide
    rw [e]
    omega
def epsL : List Rat := [((0 : Int) : Rat) / ((1 : Int) : Rat), ((1 : Int) : Rat) / ((1000 : Int) : Rat), ((-1 : Int) : Rat) / ((1000 : Int) : Rat), ((1 : Int) : Rat) / ((10000000000000000000 : Int) : Rat), ((-1 : Int) : Rat) / ((10000000000000000000 : Int) : Rat)]
theorem eps_is : [PyData.tuple [.int 0, .int 1], .tuple [.int 1, .int 1000], .tuple [.int (-1), .int 1000], .tuple [.int 1, .int 10000000000000000000], .tuple [.int (-1), .int 10000000000000000000]] = epsL.map F := by
  unfold epsL
  rw [F_of (t := 0) (b := 1) (by decide) (by decide), F_of (t := 1) (b := 1000) (by decide) (by decide), F_of (t := -1) (b := 1000) (by decide) (by decide), F_of (t := 1) (b := 10000000000000000000) (by decide) (by decide), F_of (t := -1) (b := 10000000000000000000) (by decide) (by decide)]
  rfl
structure Eps (e : Rat) : Prop where
  s : Sz 64 e
  w : Wn D34 84 e
  a : -(((1 : Int) : Rat) / ((7 : Int) : Rat)) < e
theorem eps_wn {t b d : Int} (hb : 0 < b) (h : b * d = D34) (l : (t * d).natAbs < 2 ^ 84) : Wn D34 84 ((t : Rat) / (b : Rat)) := by
  refine ⟨t * d, ?_, l⟩
  have hne : (b : Rat) ≠ 0 := by
    intro e
    have := Rat.intCast_inj.mp (show (b : Rat) = ((0 : Int) : Rat) from e)
    omega
  rw [← h, Rat.intCast_mul, Rat.intCast_mul, ← Rat.mul_assoc, Rat.div_mul_cancel hne]
theorem eps_mem {e : Rat} (h : e ∈ epsL) : Eps e := by
  unfold epsL at h
  simp only [List.mem_cons, List.not_mem_nil, or_false] at h
  rcases h with rfl | rfl | rfl | rfl | rfl
  · exact ⟨sz_part (by decide) (by decide) (by decide), eps_wn (d := 60000000000000000000000) (by decide) (by decide) (by decide), by decide +kernel⟩
  · exact ⟨sz_part (by decide) (by decide) (by decide), eps_wn (d := 60000000000000000000) (by decide) (by decide) (by decide), by decide +kernel⟩
  · exact ⟨sz_part (by decide) (by decide) (by decide), eps_wn (d := 60000000000000000000) (by decide) (by decide) (by decide), by decide +kernel⟩
  · exact ⟨sz_part (by decide) (by decide) (by decide), eps_wn (d := 6000) (by decide) (by decide) (by decide), by decide +kernel⟩
  · exact ⟨sz_part (by decide) (by decide) (by decide), eps_wn (d := 6000) (by decide) (by decide) (by decide), by decide +kernel⟩
/-- two that stay, all over one number -/
structure StOk (m l x y z u v w : Rat) : Prop where
  hm : Wn D34 88 m
  hl : Wn D34 88 l
  hx : Wn D34 88 x
  hy : Wn D34 88 y
  hz : Wn D34 88 z
  hu : Wn D34 88 u
  hv : Wn D34 88 v
  hw : Wn D34 88 w
  l0 : 0 < l
theorem StOk.gok {m l x y z u v w : Rat} (h : StOk m l x y z u v w) : Gok D34 90 (stayF m l ⟨0, x, y, z⟩ u v w) := by
  have k := h.l0
  refine ⟨fun c hc => ?_, ?_, by simp [stayF], h.hu.mono (by decide), h.hv.mono (by decide), h.hw.mono (by decide)⟩
  · unfold stayF at hc
    simp only [List.mem_cons, List.not_mem_nil, or_false] at hc
    rcases hc with rfl | rfl
    · exact ⟨h.hm.mono (by decide), h.hx.mono (by decide), h.hy.mono (by decide), h.hz.mono (by decide)⟩
    · exact ⟨(wn_add h.hm h.hl).mono (by decide), h.hx.mono (by decide), h.hy.mono (by decide), h.hz.mono (by decide)⟩
  · unfold stayF
    simp only [List.pairwise_cons, List.mem_cons, List.not_mem_nil, or_false, forall_eq, List.Pairwise.nil, and_true, false_implies, implies_true]
    grind
theorem tw34 {m l x y z u v w m' l' x' y' z' u' v' w' p q : Rat} (h : StOk m l x y z u v w) (g : StOk m' l' x' y' z' u' v' w') (hp : Wn D34 84 p) (hq : Wn D34 84 q) :
    Tw D34 90 (.tuple [.tuple [C ⟨m, x, y, z⟩, C ⟨m + l, x, y, z⟩], .tuple [F u, F v, F w]]) (.tuple [.tuple [C ⟨m', x', y', z'⟩, C ⟨m' + l', x', y', z'⟩], .tuple [F u', F v', F w']])
      (.tuple [C ⟨m, x, y, z⟩, C ⟨m + l, x, y, z⟩]) (.tuple [C ⟨m', x', y', z'⟩, C ⟨m' + l', x', y', z'⟩]) (.tuple [F u, F v, F w]) (.tuple [F u', F v', F w']) (.tuple [F p, F q])
      (stayF m l ⟨0, x, y, z⟩ u v w) (stayF m' l' ⟨0, x', y', z'⟩ u' v' w') p q where
  hf := flD_T (f := stayF m l ⟨0, x, y, z⟩ u v w)
  hg := flD_T (f := stayF m' l' ⟨0, x', y', z'⟩ u' v' w')
  ha := apD_T
  D0 := by decide
  Dn := by decide
  gf := h.gok
  gg := g.gok
  wp := hp.mono (by decide)
  wq := hq.mono (by decide)
  wr := (wn_add (hp.mono (by decide)) (wn_add h.hu g.hu) : Wn D34 90 (p + (u + u')))
  wv := (wn_add (hq.mono (by decide)) (wn_add h.hv g.hv) : Wn D34 90 (q + (v + v')))
  n100 := by decide
theorem near_same {x r : Rat} (h : 0 < r) : nearQ x x r := ⟨by grind, by grind⟩
theorem near_off {x r e s : Rat} (hs : s = 1 ∨ s = -1) (h : 0 < r + e) (h0 : 0 < r) : nearQ x (x + s * (r + e)) r ↔ e < 0 := by
  unfold nearQ
  rcases hs with rfl | rfl
  · constructor
    · rintro ⟨a, b⟩; grind
    · intro a; constructor <;> grind
  · constructor
    · rintro ⟨a, b⟩; grind
    · intro a; constructor <;> grind
section
variable {m l l' x y z u v w u' v' w' p q e s : Rat}
theorem at_once (hl : 0 < l) (hl' : 0 < l') (hw : 0 ≤ w) (hw' : 0 ≤ w') : ∃ s t, m ≤ s ∧ s < m + l ∧ m ≤ t ∧ t < m + l' ∧ t ≤ s + w ∧ s ≤ t + w' := ⟨m, m, by grind, by grind, by grind, by grind, by grind, by grind⟩
theorem beside0 (hl : 0 < l) (hl' : 0 < l') (hw : 0 ≤ w) (hw' : 0 ≤ w') (hr : 0 < p + (u + u')) (hv : 0 < q + (v + v')) (hs : s = 1 ∨ s = -1) {b : Bool} (he : 0 < p + (u + u') + e) (hb : decide (e < 0) = b) :
    May (stayF m l ⟨0, x, y, z⟩ u v w) (stayF m l' ⟨0, x + s * (p + (u + u') + e), y, z⟩ u' v' w') p q ↔ b = true := by
  subst hb
  rw [may_stay, decide_eq_true_iff]
  exact ⟨fun h => (near_off hs he hr).mp h.2.1, fun h => ⟨at_once hl hl' hw hw', (near_off hs he hr).mpr h, near_same hr, near_same hv⟩⟩
theorem beside1 (hl : 0 < l) (hl' : 0 < l') (hw : 0 ≤ w) (hw' : 0 ≤ w') (hr : 0 < p + (u + u')) (hv : 0 < q + (v + v')) (hs : s = 1 ∨ s = -1) {b : Bool} (he : 0 < p + (u + u') + e) (hb : decide (e < 0) = b) :
    May (stayF m l ⟨0, x, y, z⟩ u v w) (stayF m l' ⟨0, x, y + s * (p + (u + u') + e), z⟩ u' v' w') p q ↔ b = true := by
  subst hb
  rw [may_stay, decide_eq_true_iff]
  exact ⟨fun h => (near_off hs he hr).mp h.2.2.1, fun h => ⟨at_once hl hl' hw hw', near_same hr, (near_off hs he hr).mpr h, near_same hv⟩⟩
theorem beside2 (hl : 0 < l) (hl' : 0 < l') (hw : 0 ≤ w) (hw' : 0 ≤ w') (hr : 0 < p + (u + u')) (hv : 0 < q + (v + v')) (hs : s = 1 ∨ s = -1) {b : Bool} (he : 0 < q + (v + v') + e) (hb : decide (e < 0) = b) :
    May (stayF m l ⟨0, x, y, z⟩ u v w) (stayF m l' ⟨0, x, y, z + s * (q + (v + v') + e)⟩ u' v' w') p q ↔ b = true := by
  subst hb
  rw [may_stay, decide_eq_true_iff]
  exact ⟨fun h => (near_off hs he hv).mp h.2.2.2, fun h => ⟨at_once hl hl' hw hw', near_same hr, near_same hr, (near_off hs he hv).mpr h⟩⟩
theorem behind (hl : 0 < l) (hl' : 0 < l') (hw : 0 ≤ w) (hw' : 0 ≤ w') (hr : 0 < p + (u + u')) (hv : 0 < q + (v + v')) (he : 0 < l + e) :
    May (stayF m l ⟨0, x, y, z⟩ u v w) (stayF (m + l + w + e) l' ⟨0, x, y, z⟩ u' v' w') p q ↔ decide (e < 0) = true := by
  rw [may_stay, decide_eq_true_iff]
  constructor
  · rintro ⟨⟨s, t, h1, h2, h3, h4, h5, h6⟩, -⟩
    grind
  · intro h
    exact ⟨⟨m + l + e, m + l + w + e, by grind, by grind, by grind, by grind, by grind, by grind⟩, near_same hr, near_same hr, near_same hv⟩
end
theorem may_flip {f g : Fl} {p q : Rat} {b : Bool} (h : May f g p q ↔ b = true) : May g f p q ↔ b = true := ⟨fun k => h.mp k.swap, fun k => (h.mpr k).swap⟩
theorem num_neg {e : Rat} : e.num < 0 ↔ e < 0 := by
  have h := Rat.num_nonneg (q := e)
  constructor
  · intro k
    exact Rat.not_le.mp fun g => by have := h.mpr g; omega
  · intro k
    exact Int.not_le.mp fun g => by have := h.mp g; exact absurd k (Rat.not_lt.mpr this)
theorem ov_low {M : Nat} {q : Rat} (h : Ov 6 M q) (h0 : 0 < q) : ((1 : Int) : Rat) / ((7 : Int) : Rat) < q := by
  obtain ⟨i, e, -⟩ := h
  have e6 : q * (((6 : Nat) : Int) : Rat) = (i : Rat) := by rw [e]; exact Rat.div_mul_cancel (by decide)
  have hi : 0 < (i : Rat) := by rw [← e6]; exact Rat.mul_pos h0 (by decide)
  have h1 : 1 ≤ i := Rat.intCast_pos.mp hi
  have h2 : ((1 : Int) : Rat) ≤ (i : Rat) := Rat.intCast_le_intCast.mpr h1
  rw [← e6] at h2
  have e7 : ((1 : Int) : Rat) / ((7 : Int) : Rat) * ((7 : Int) : Rat) = ((1 : Int) : Rat) := Rat.div_mul_cancel (by decide)
  have c6 : (((6 : Nat) : Int) : Rat) = 6 := rfl
  have c7 : ((7 : Int) : Rat) = 7 := rfl
  have c1 : ((1 : Int) : Rat) = 1 := rfl
  rw [c6, c1] at h2
  rw [c7, c1] at e7 ⊢
  grind
theorem wn_away {D : Int} {n : Nat} {sg : Int} {c r e : Rat} (hs : sg = 1 ∨ sg = -1) (hc : Wn D (n + 1) c) (hr : Wn D n r) (he : Wn D n e) : Wn D (n + 2) (c + (sg : Rat) * (r + e)) := by
  have h := wn_add hr he
  rcases hs with rfl | rfl
  · have e : c + ((1 : Int) : Rat) * (r + e) = c + (r + e) := by have : ((1 : Int) : Rat) = 1 := rfl; rw [this]; grind
    rw [e]
    exact wn_add hc h
  · have e : c + ((-1 : Int) : Rat) * (r + e) = c - (r + e) := by have : ((-1 : Int) : Rat) = -1 := rfl; rw [this]; grind
    rw [e]
    exact wn_sub hc h
theorem cutS0 {a b c : PyData} : cutD [a, b, c] none (some 0) = [] := rfl
theorem cutS1 {a b c : PyData} : cutD [a, b, c] none (some 1) = [a] := rfl
theorem cutS2 {a b c : PyData} : cutD [a, b, c] none (some 2) = [a, b] := rfl
theorem cutS0' {a b c : PyData} : cutD [a, b, c] (some (0 + 1)) none = [b, c] := rfl
theorem cutS1' {a b c : PyData} : cutD [a, b, c] (some (1 + 1)) none = [c] := rfl
theorem cutS2' {a b c : PyData} : cutD [a, b, c] (some (2 + 1)) none = [] := rfl

theorem staying_wC {k : Nat} {m l x y z : Rat} {st : Mem} {Q : WQ} (hm : Sz 1000 m) (hl : Sz 1000 l) (h : Q (.val (.tuple [C ⟨m, x, y, z⟩, C ⟨m + l, x, y, z⟩])) st) : wC (callN pr (k + 4)) i__law_staying [.val (F m), .val (F l), .val (.tuple [F x, F y, F z])] st Q := by
  refine wc_call P__law_staying rfl ?_
  repeat' left
  exact wd_same h

theorem law_true : ∀ ns : List Int, ns.length ≤ 63 → (∀ z ∈ ns, z.natAbs.log2 ≤ 1048576) → ∃ st, callN tb.P 60 i_law [.scr ns] [] = some (.val (.bool true), st) := by
  intro ns hl hz
  suffices h : wC (callN pr 60) i_law [.scr ns] [] fun w _ => w = .val (.bool true) by
    obtain ⟨⟨w, st⟩, e, q⟩ := h
    exact ⟨st, by rw [show w = .val (.bool true) from q] at e; exact e⟩
  refine wc_call P_law rfl ?_
  refine wss_cons (ws_for (fun _ _ _ ys r _ => (∃ a1 a2 a3 a4 a5 a6 a7 a8 a9 a10 a11 a12 a13 a14 a15 a16 a17 a18 a19 a20 a21, r = [some (.scr ns), a1, a2, a3, a4, a5, a6, a7, a8, a9, a10, a11, a12, a13, a14, a15, a16, a17, a18, a19, a20, a21]) ∧ ∀ y ∈ ys, ∃ i : Int, y = .int i ∧ 0 ≤ i ∧ i < 1000) ?_)
  refine wi_rng1 ?_
  repeat' left
  refine ⟨by simp [lineN]; omega, ⟨⟨_, _, _, _, _, _, _, _, _, _, _, _, _, _, _, _, _, _, _, _, _, rfl⟩, rng_cells (by simp; omega)⟩, ?_, ?_⟩
  · rintro r st ⟨⟨a1, a2, a3, a4, a5, a6, a7, a8, a9, a10, a11, a12, a13, a14, a15, a16, a17, a18, a19, a20, a21, rfl⟩, _⟩
    repeat' left
    exact wd_val rfl
  rintro x ys r st ⟨⟨a1, a2, a3, a4, a5, a6, a7, a8, a9, a10, a11, a12, a13, a14, a15, a16, a17, a18, a19, a20, a21, rfl⟩, hy⟩
  obtain ⟨i, rfl, hi0, hi1⟩ := hy x (List.mem_cons_self ..)
  have hy' : ∀ y ∈ ys, ∃ i : Int, y = .int i ∧ 0 ≤ i ∧ i < 1000 := fun y h => hy y (List.mem_cons_of_mem _ h)
  refine wp_is rfl ?_
  repeat' left
  refine tape_wC hi0 hi1 hz fun c T0 => ?_
  repeat' left
  refine apartG_wC T0 fun p q st1 T1 op p0 oq q0 => ?_
  repeat' left
  refine boundsG_wC T1 fun u v w st2 T2 bu bv bw => ?_
  repeat' left
  refine boundsG_wC T2 fun u' v' w' st3 T3 bu' bv' bw' => ?_
  repeat' left
  refine place_wC T3 fun x st4 T4 ox => ?_
  repeat' left
  refine place_wC T4 fun y st5 T5 oy => ?_
  repeat' left
  refine place_wC T5 fun z st6 T6 oz => ?_
  repeat' left
  refine place_wC T6 fun m st7 T7 om => ?_
  repeat' left
  refine spanG_wC T7 fun l st8 T8 ol l0 => ?_
  repeat' left
  refine spanG_wC T8 fun l' st9 T9 ol' l0' => ?_
  have T9b := T9.base
  repeat' left
  rename_i sd s10 hsd0 hsd1 T10
  have sp : Sz 10 p := op.sz (by decide) (by decide) (by decide)
  have sq : Sz 10 q := oq.sz (by decide) (by decide) (by decide)
  have su : Sz 10 u := bu.1.sz (by decide) (by decide) (by decide)
  have sv : Sz 10 v := bv.1.sz (by decide) (by decide) (by decide)
  have sw : Sz 10 w := bw.1.sz (by decide) (by decide) (by decide)
  have su' : Sz 10 u' := bu'.1.sz (by decide) (by decide) (by decide)
  have sv' : Sz 10 v' := bv'.1.sz (by decide) (by decide) (by decide)
  have sw' : Sz 10 w' := bw'.1.sz (by decide) (by decide) (by decide)
  have sx : Sz 10 x := ox.sz (by decide) (by decide) (by decide)
  have sy : Sz 10 y := oy.sz (by decide) (by decide) (by decide)
  have sz : Sz 10 z := oz.sz (by decide) (by decide) (by decide)
  have sm : Sz 10 m := om.sz (by decide) (by decide) (by decide)
  have sl : Sz 10 l := ol.sz (by decide) (by decide) (by decide)
  have sl' : Sz 10 l' := ol'.sz (by decide) (by decide) (by decide)
  have one0 : StOk m l x y z u v w := by
    refine ⟨(w34 om (by decide)).mono (by decide), (w34 ol (by decide)).mono (by decide), (w34 ox (by decide)).mono (by decide), (w34 oy (by decide)).mono (by decide), (w34 oz (by decide)).mono (by decide), (w34 bu.1 (by decide)).mono (by decide), (w34 bv.1 (by decide)).mono (by decide), (w34 bw.1 (by decide)).mono (by decide), l0⟩
  have wp := w34 op (by decide)
  have wq := w34 oq (by decide)
  have two0 : ∀ m2 x2 y2 z2 : Rat, Wn D34 88 m2 → Wn D34 88 x2 → Wn D34 88 y2 → Wn D34 88 z2 → StOk m2 l' x2 y2 z2 u' v' w' := fun m2 x2 y2 z2 h1 h2 h3 h4 => by
    refine ⟨h1, (w34 ol' (by decide)).mono (by decide), h2, h3, h4, (w34 bu'.1 (by decide)).mono (by decide), (w34 bv'.1 (by decide)).mono (by decide), (w34 bw'.1 (by decide)).mono (by decide), l0'⟩
  have hr : 0 < p + (u + u') := by have := bu.2; have := bu'.2; grind
  have hv : 0 < q + (v + v') := by have := bv.2; have := bv'.2; grind
  have hsd : sd = 0 ∨ sd = 1 ∨ sd = 2 := by omega
  rcases hsd with rfl | rfl | rfl
  all_goals
    repeat' left
    refine ws_forX F (wi_seq ?_)
    repeat' left
    refine ⟨epsL, eps_is, rfl, fun _ _ r s => s = s10 ∧ ∃ a14 a15 a16 a17 a18 a19 a20 a21, r = [some (.scr ns), some (.val (.int i)), some (.loc st.length), some (.val (.tuple [F p, F q])), some (.val (.list [.tuple [F u, F v, F w], .tuple [F u', F v', F w']])), some (.val (.tuple [F x, F y, F z])), some (.val (F m)), some (.val (F l)), some (.val (F l')), some (.val (.int _)), some (.val (.int _)), some (.val (F _)), some (.val (F _)), some (.val (F (m + l + w))), a14, a15, a16, a17, a18, a19, a20, a21], ⟨rfl, _, _, _, _, _, _, _, _, rfl⟩, ?_, ?_⟩
    · rintro r s ⟨rfl, a14, a15, a16, a17, a18, a19, a20, a21, rfl⟩
      repeat' left
      exact ⟨stay_nil, ⟨_, _, _, _, _, _, _, _, _, _, _, _, _, _, _, _, _, _, _, _, _, rfl⟩, hy'⟩
    rintro done e todo r s e0 ⟨rfl, a14, a15, a16, a17, a18, a19, a20, a21, rfl⟩
    have ee : Eps e := eps_mem (by rw [e0]; simp)
    have se := ee.s
    have hn : decide (e.num < 0) = decide (e < 0) := by rw [decide_eq_decide]; exact num_neg
    repeat' left
    refine ws_forX PyData.int (wi_seq ?_)
    repeat' left
    refine ⟨[1, -1], rfl, rfl, fun done2 _ r s' => s' = s ∧ ∃ a15 a16 a17 a18 a19 a20 a21, r = [some (.scr ns), some (.val (.int i)), some (.loc st.length), some (.val (.tuple [F p, F q])), some (.val (.list [.tuple [F u, F v, F w], .tuple [F u', F v', F w']])), some (.val (.tuple [F x, F y, F z])), some (.val (F m)), some (.val (F l)), some (.val (F l')), some (.val (.int _)), some (.val (.int _)), some (.val (F _)), some (.val (F _)), some (.val (F (m + l + w))), some (.val (F e)), a15, a16, a17, a18, a19, a20, a21] ∧ (done2 = [] ∨ a18 = some (.val (.tuple [.tuple [C ⟨m, x, y, z⟩, C ⟨m + l, x, y, z⟩], .tuple [F u, F v, F w]]))), ⟨rfl, _, _, _, _, _, _, _, rfl, .inl rfl⟩, ?_, ?_⟩
    · rintro r s' ⟨rfl, a15, a16, a17, a18, a19, a20, a21, rfl, h18⟩
      obtain rfl := h18.resolve_left (by simp)
      repeat' left
      refine staying_wC ((sz_add (sz_add (sz_add sm sl) sw) se).mono (by decide)) (sl'.mono (by decide)) ?_
      repeat' left
      rw [hn]
      have wmo : Wn D34 88 (m + l + w + e) := (wn_add (wn_add (wn_add (w34 om (by decide)) (w34 ol (by decide))) ((w34 bw.1 (by decide)).mono (by decide))) (ee.w.mono (by decide))).mono (by decide)
      have tr := behind (m := m) (x := x) (y := y) (z := z) l0 l0' bw.2 bw'.2 hr hv (show 0 < l + e by have := ov_low ol l0; have := ee.a; grind)
      have t1 := tw34 one0 (two0 _ x y z wmo one0.hx one0.hy one0.hz) wp wq
      have t2 := tw34 (two0 _ x y z wmo one0.hx one0.hy one0.hz) one0 wp wq
      cases hb : decide (e < 0) <;> rw [hb] at tr
      all_goals
        repeat' left
        refine told_wC _ t1 (show 2 ≤ 100 by decide) (show 2 ≤ 100 by decide) tr fun d hd => ?_
        simp only [cond] at hd
        repeat' left
        refine told_wC _ t2 (show 2 ≤ 100 by decide) (show 2 ≤ 100 by decide) (may_flip tr) fun d2 hd2 => ?_
        simp only [cond] at hd2
        repeat' left
        exact ⟨rfl, _, _, _, _, _, _, _, _, rfl⟩
    rintro done2 sg todo2 r s' e1 ⟨rfl, a15, a16, a17, a18, a19, a20, a21, rfl, -⟩
    have hsg : sg = 1 ∨ sg = -1 := by
      have : sg ∈ ([1, -1] : List Int) := by rw [e1]; simp
      simpa using this
    have hsR : ((sg : Int) : Rat) = 1 ∨ ((sg : Int) : Rat) = -1 := by rcases hsg with rfl | rfl <;> first | exact .inl rfl | exact .inr rfl
    have hsz : sg.natAbs < 2 ^ 64 := by rcases hsg with rfl | rfl <;> decide
    repeat' left
    first | rw [cutS0] | rw [cutS1] | rw [cutS2]
    repeat' left
    first | rw [cutS0'] | rw [cutS1'] | rw [cutS2']
    repeat' left
    refine staying_wC (sm.mono (by decide)) (sl.mono (by decide)) ?_
    repeat' left
    refine staying_wC (sm.mono (by decide)) (sl'.mono (by decide)) ?_
    repeat' left
    rw [hn]
    have h1 := ov_low op p0
    have h2 := ov_low oq q0
    have h3 := ee.a
    have h4 := bu.2
    have h5 := bu'.2
    have h6 := bv.2
    have h7 := bv'.2
    have her : 0 < p + (u + u') + e := by grind
    have hev : 0 < q + (v + v') + e := by grind
    have wr : Wn D34 86 (p + (u + u')) := (wn_add (wp.mono (by decide)) (wn_add (w34 bu.1 (by decide)) (w34 bu'.1 (by decide)))).mono (by decide)
    have wv : Wn D34 86 (q + (v + v')) := (wn_add (wq.mono (by decide)) (wn_add (w34 bv.1 (by decide)) (w34 bv'.1 (by decide)))).mono (by decide)
    have w87 : ∀ {r : Rat}, Ov 6 30 r → Wn D34 87 r := fun h => (w34 h (by decide)).mono (by decide)
    have we := ee.w.mono (show 84 ≤ 86 by decide)
    cases hb : decide (e < 0)
    all_goals
      repeat' left
      refine told_wC _ (tw34 one0 (two0 m _ _ _ one0.hm (by first | exact one0.hx | exact wn_away hsg (w87 ox) wr we) (by first | exact one0.hy | exact wn_away hsg (w87 oy) wr we) (by first | exact one0.hz | exact wn_away hsg (w87 oz) wv we)) wp wq) (show 2 ≤ 100 by decide) (show 2 ≤ 100 by decide) (by first | exact beside0 l0 l0' bw.2 bw'.2 hr hv hsR her hb | exact beside1 l0 l0' bw.2 bw'.2 hr hv hsR her hb | exact beside2 l0 l0' bw.2 bw'.2 hr hv hsR hev hb) fun d hd => ?_
      simp only [cond] at hd
      repeat' left
      refine told_wC _ (tw34 (two0 m _ _ _ one0.hm (by first | exact one0.hx | exact wn_away hsg (w87 ox) wr we) (by first | exact one0.hy | exact wn_away hsg (w87 oy) wr we) (by first | exact one0.hz | exact wn_away hsg (w87 oz) wv we)) one0 wp wq) (show 2 ≤ 100 by decide) (show 2 ≤ 100 by decide) (may_flip (by first | exact beside0 l0 l0' bw.2 bw'.2 hr hv hsR her hb | exact beside1 l0 l0' bw.2 bw'.2 hr hv hsR her hb | exact beside2 l0 l0' bw.2 bw'.2 hr hv hsR hev hb)) fun d2 hd2 => ?_
      simp only [cond] at hd2
      repeat' left
      exact ⟨rfl, _, _, _, _, _, _, _, rfl, .inr rfl⟩

end Lw
open PySem PySem.W PyProof.Rows
set_option maxRecDepth 100000 in
set_option maxHeartbeats 0 in
theorem PySem.Challenge.cw_skylanes_k34_the_bounds_ends_holds : PySem.Challenge.rw_skylanes_k34_the_bounds_ends.Holds := by
  w_on; o_law; k_head; (case hw => w_witness2)
  k_fill
  refine Sk.walk_G (l := PySem.Challenge.rw_skylanes_k34_the_bounds_ends) (n := 63) (k := 60) (x := "_law_script") (T := Lw.tb) (ds := Lw.ds) (j := 48) (dj := Lw.d48) (fdj := Lw.f48) rfl (by decide) rfl ⟨rfl, by decide, by decide⟩ (fun w h Y => PySem.W.kIn_of Y) rfl rfl rfl rfl ?F Lw.law_true
  case F =>
    intro w mg h KX G
    refine' Lw.top (pm := w.params) KX G ?a0 ?l0 ?q0 ?k0 ?a1 ?l1 ?q1 ?k1 ?a2 ?l2 ?q2 ?k2 ?a3 ?l3 ?q3 ?k3 ?a4 ?l4 ?q4 ?k4 ?a5 ?l5 ?q5 ?k5 ?a6 ?l6 ?q6 ?k6 ?a7 ?l7 ?q7 ?k7 ?a8 ?l8 ?q8 ?k8 ?a9 ?l9 ?q9 ?k9 ?a10 ?l10 ?q10 ?k10 ?a11 ?l11 ?q11 ?k11 ?a12 ?l12 ?q12 ?k12 ?a13 ?l13 ?q13 ?k13 ?a14 ?l14 ?q14 ?k14 ?a15 ?l15 ?q15 ?k15 ?a16 ?l16 ?q16 ?k16 ?a17 ?l17 ?q17 ?k17 ?a18 ?l18 ?q18 ?k18 ?a19 ?l19 ?q19 ?k19 ?a20 ?l20 ?q20 ?k20 ?a21 ?l21 ?q21 ?k21 ?a22 ?l22 ?q22 ?k22 ?a23 ?l23 ?q23 ?k23 ?a24 ?l24 ?q24 ?k24 ?a25 ?l25 ?q25 ?k25 ?a26 ?l26 ?q26 ?k26 ?a27 ?l27 ?q27 ?k27 ?a28 ?l28 ?q28 ?k28 ?a29 ?l29 ?q29 ?k29 ?a30 ?l30 ?q30 ?k30 ?a31 ?l31 ?q31 ?k31 ?a32 ?l32 ?q32 ?k32 ?a33 ?l33 ?q33 ?k33 ?a34 ?l34 ?q34 ?k34 ?a35 ?l35 ?q35 ?k35 ?a36 ?l36 ?q36 ?k36 ?a37 ?l37 ?q37 ?k37 ?a38 ?l38 ?q38 ?k38 ?a39 ?l39 ?q39 ?k39 ?a40 ?l40 ?q40 ?k40 ?a41 ?l41 ?q41 ?k41 ?a42 ?l42 ?q42 ?k42 ?a43 ?l43 ?q43 ?k43 ?a44 ?l44 ?q44 ?k44 ?a45 ?l45 ?q45 ?k45 ?a46 ?l46 ?q46 ?k46 ?a47 ?l47 ?q47 ?k47 ?a48 ?l48 ?q48 ?k48 ?z0 ?z1 ?z2 ?z3 ?z4 ?z5 ?z6 ?z7 ?z8 ?z9 ?ac0 ?lc0 ?ac1 ?lc1 ?ac2 ?lc2 ?ac3 ?lc3 ?ac4
    (case a0 => k_is); (case l0 => k_is); (case q0 => k_is); (case k0 => k_is); (case a1 => k_is); (case l1 => k_is); (case q1 => k_is); (case k1 => k_is); (case a2 => k_is); (case l2 => k_is); (case q2 => k_is); (case k2 => k_is); (case a3 => k_is); (case l3 => k_is); (case q3 => k_is); (case k3 => k_is); (case a4 => k_is); (case l4 => k_is); (case q4 => k_is); (case k4 => k_is); (case a5 => k_is); (case l5 => k_is); (case q5 => k_is); (case k5 => k_is); (case a6 => k_is); (case l6 => k_is); (case q6 => k_is); (case k6 => k_is); (case a7 => k_is); (case l7 => k_is); (case q7 => k_is); (case k7 => k_is); (case a8 => k_is); (case l8 => k_is); (case q8 => k_is); (case k8 => k_is); (case a9 => k_is); (case l9 => k_is); (case q9 => k_is); (case k9 => k_is); (case a10 => k_is); (case l10 => k_is); (case q10 => k_is); (case k10 => k_is); (case a11 => k_is); (case l11 => k_is); (case q11 => k_is); (case k11 => k_is); (case a12 => k_is); (case l12 => k_is); (case q12 => k_is); (case k12 => k_is); (case a13 => k_is); (case l13 => k_is); (case q13 => k_is); (case k13 => k_is); (case a14 => k_is); (case l14 => k_is); (case q14 => k_is); (case k14 => k_is); (case a15 => k_is); (case l15 => k_is); (case q15 => k_is); (case k15 => k_is); (case a16 => k_is); (case l16 => k_is); (case q16 => k_is); (case k16 => k_is); (case a17 => k_is); (case l17 => k_is); (case q17 => k_is); (case k17 => k_is); (case a18 => k_is); (case l18 => k_is); (case q18 => k_is); (case k18 => k_is); (case a19 => k_is); (case l19 => k_is); (case q19 => k_is); (case k19 => k_is); (case a20 => k_is); (case l20 => k_is); (case q20 => k_is); (case k20 => k_is); (case a21 => k_is); (case l21 => k_is); (case q21 => k_is); (case k21 => k_is); (case a22 => k_is); (case l22 => k_is); (case q22 => k_is); (case k22 => k_is); (case a23 => k_is); (case l23 => k_is); (case q23 => k_is); (case k23 => k_is); (case a24 => k_is); (case l24 => k_is); (case q24 => k_is); (case k24 => k_is); (case a25 => k_is); (case l25 => k_is); (case q25 => k_is); (case k25 => k_is); (case a26 => k_is); (case l26 => k_is); (case q26 => k_is); (case k26 => k_is); (case a27 => k_is); (case l27 => k_is); (case q27 => k_is); (case k27 => k_is); (case a28 => k_is); (case l28 => k_is); (case q28 => k_is); (case k28 => k_is); (case a29 => k_is); (case l29 => k_is); (case q29 => k_is); (case k29 => k_is); (case a30 => k_is); (case l30 => k_is); (case q30 => k_is); (case k30 => k_is); (case a31 => k_is); (case l31 => k_is); (case q31 => k_is); (case k31 => k_is); (case a32 => k_is); (case l32 => k_is); (case q32 => k_is); (case k32 => k_is); (case a33 => k_is); (case l33 => k_is); (case q33 => k_is); (case k33 => k_is); (case a34 => k_is); (case l34 => k_is); (case q34 => k_is); (case k34 => k_is); (case a35 => k_is); (case l35 => k_is); (case q35 => k_is); (case k35 => k_is); (case a36 => k_is); (case l36 => k_is); (case q36 => k_is); (case k36 => k_is); (case a37 => k_is); (case l37 => k_is); (case q37 => k_is); (case k37 => k_is); (case a38 => k_is); (case l38 => k_is); (case q38 => k_is); (case k38 => k_is); (case a39 => k_is); (case l39 => k_is); (case q39 => k_is); (case k39 => k_is); (case a40 => k_is); (case l40 => k_is); (case q40 => k_is); (case k40 => k_is); (case a41 => k_is); (case l41 => k_is); (case q41 => k_is); (case k41 => k_is); (case a42 => k_is); (case l42 => k_is); (case q42 => k_is); (case k42 => k_is); (case a43 => k_is); (case l43 => k_is); (case q43 => k_is); (case k43 => k_is); (case a44 => k_is); (case l44 => k_is); (case q44 => k_is); (case k44 => k_is); (case a45 => k_is); (case l45 => k_is); (case q45 => k_is); (case k45 => k_is); (case a46 => k_is); (case l46 => k_is); (case q46 => k_is); (case k46 => k_is); (case a47 => k_is); (case l47 => k_is); (case q47 => k_is); (case k47 => k_is); (case a48 => k_is); (case l48 => k_is); (case q48 => k_is); (case k48 => k_is); (case z0 => k_is); (case z1 => k_is); (case z2 => k_is); (case z3 => k_is); (case z4 => k_is); (case z5 => k_is); (case z6 => k_is); (case z7 => k_is); (case z8 => k_is); (case z9 => k_is); (case ac0 => k_is); (case lc0 => k_is); (case ac1 => k_is); (case lc1 => k_is); (case ac2 => k_is); (case lc2 => k_is); (case ac3 => k_is); (case lc3 => k_is); (case ac4 => k_is)
