import PyProof.Rows.All
import Wide.All
import OpenK.AllK
import Wide.FinOn
import PyProof.EqAt
import PyProof.EqKinds
import PyProof.TupleCall
import HandS.ForMost
import HandS.ForExc
import HandS.Evl
import HandS.IsInst
import HandS.Steps
import HandS.Wide
import HandS.Defaults
import HandS.SortRule
import HandS.Rev
import KE.GoesEnum
import HandS.RaiseMore
import HandS.Lambda
import KE.KExcSuper
import HandS.ExcIs
import HandS.CallSlots
import KE.KExcIs
import KE.KStateDown
import HandS.Head0
import HandS.Head1
import HandS.Head2
import HandS.HeadEnd
import HandS.HeadHook1
import HandS.HeadHook2
import HandS.HeadHook3
import HandS.HeadHook4
import HandS.HeadWalk
import HandS.Walk
import HandS.Codes
import KE.IntTextLaws
import KE.KIntText
import PySem.Challenge.RW_makebook_k88_values_written
set_option Elab.async false
set_option linter.all false
set_option maxRecDepth 100000
set_option maxHeartbeats 8000000
namespace K88
open PySem PySem.Spec PyProof.Rows L2 Evl
def top (i : Nat) : Stmt := PySem.Challenge.pw_makebook_k88_values_written.main.body.getD i (.Pass ⟨0, 0, 0, 0⟩)
abbrev sWord : Stmt := top 24
theorem scWord : FnScope ["thing", "sign"] ["thing"] (defScope sWord) := ⟨rfl, rfl, rfl, by decide +kernel, rfl, by decide +kernel, by decide +kernel⟩
end K88
/-! Further rules over the layer: a list against an empty one, extend by a tuple, a text times a number. -/
namespace K88
open PySem PySem.Spec PyProof.Rows L2 Evl
section
variable {X : Cx}
/-- lists against the empty list -/
def rEE (K : PySem.W.Frag) : R2 := fun x y H Q => ∃ a b xs, x = .ref a ∧ y = .ref b ∧ a ≠ b ∧ SqL K H a xs ∧ SqL K H b [] ∧ Q (.bl xs.isEmpty) H
def rNE (K : PySem.W.Frag) : R2 := fun x y H Q => ∃ a b xs, x = .ref a ∧ y = .ref b ∧ a ≠ b ∧ SqL K H a xs ∧ SqL K H b [] ∧ Q (.bl (!xs.isEmpty)) H
theorem op_ee (hu : X.A.units < cLine) : OpR X (compareOp .Eq) (rEE X.K) := fun pins s σ H x y v u Q I rx ry ⟨a, b, xs, ex, ey, ne, ha, hb, q⟩ => by
  subst ex; subst ey
  cases rx; cases ry
  obtain ⟨its, rv, pl, z⟩ := I.list ha
  obtain ⟨its2, rv2, pl2, z2⟩ := I.list hb
  have l1 := rv.length
  have l2 := rv2.length
  have e2 : its2 = [] := List.eq_nil_of_length_eq_zero (by simpa using l2.symm)
  subst e2
  cases xs with
  | nil =>
    have e1 : its = [] := List.eq_nil_of_length_eq_zero (by simpa using l1.symm)
    subst e1
    refine SeqAt.eq_listAt (e := fun _ => true) pl.isList pl2.isList rfl hu (fun j h1 _ => absurd h1 (by simp)) ?_
    exact ⟨.bl _, H, I, rfl, q⟩
  | cons c r =>
    refine SeqAt.eq_list_lengthsAt pl.isList pl2.isList ?_ hu ⟨.bl _, H, I, rfl, q⟩
    have : its.length = r.length + 1 := by simpa using l1.symm
    simp [this]
theorem op_nE (hu : X.A.units < cLine) : OpR X (compareOp .NotEq) (rNE X.K) := fun pins s σ H x y v u Q I rx ry ⟨a, b, xs, ex, ey, ne, ha, hb, q⟩ => by
  subst ex; subst ey
  cases rx; cases ry
  obtain ⟨its, rv, pl, z⟩ := I.list ha
  obtain ⟨its2, rv2, pl2, z2⟩ := I.list hb
  have l1 := rv.length
  have l2 := rv2.length
  have e2 : its2 = [] := List.eq_nil_of_length_eq_zero (by simpa using l2.symm)
  subst e2
  cases xs with
  | nil =>
    have e1 : its = [] := List.eq_nil_of_length_eq_zero (by simpa using l1.symm)
    subst e1
    refine SeqAt.RcNeAt.lists (e := fun _ => true) pl.isList pl2.isList rfl hu (fun j h1 _ => absurd h1 (by simp)) X.prog X.w X.xe _ ?_
    exact ⟨.bl _, H, I, rfl, q⟩
  | cons c r =>
    refine SeqAt.RcNeAt.lists_lengths pl.isList pl2.isList ?_ hu X.prog X.w X.xe _ ⟨.bl _, H, I, rfl, q⟩
    have : its.length = r.length + 1 := by simpa using l1.symm
    simp [this]
open AutoSeq1 (wpAny_loadPart') in
theorem ext_tup (l : Addr) (items : Array Value) (n : Nat) (b : Addr) (dd : Option Addr) (sl : Array (Option Value)) (items2 : Array Value) (n2 : Nat) (hs0 : ¬(!items.isEmpty && Builtin.List.listTooLong (items.size + items2.size)) = true) (hs1 : items.size ≤ sizeLine) (hs2 : items.size + items2.size ≤ sizeLine + 1) :
    Meets (Builtin.«list.extend» ⟨[.ref l, .ref b], []⟩) (fun _ R s => s.heap.get? l = some { cls := .type "list", dict := none, data := .seq items n, slots := #[] } ∧ s.heap.get? b = some { cls := .type "tuple", dict := dd, data := .seq items2 n2, slots := sl } ∧ R (.ok (.ret Value.none)) { s with heap := s.heap.update l (Obj.mapSeq fun x => x ++ items2), toks := s.toks }) :=
  .of_wp fun prog w A R s h => by
    obtain ⟨hp, g, d, tk, os⟩ := s
    obtain ⟨hl, hb, h⟩ := h
    have hz' : (items ++ items2).size ≤ sizeLine + 1 := by rw [Array.size_append]; exact hs2
    have f1 := AutoSeq1.idx_int
    have f2 := AutoSeq1.sub_tuple_tuple
    have f3 := AutoSeq1.sub_list_list
    have f4 := AutoSeq1.sub_tuple_list
    have f5 := AutoSeq1.sub_list_tuple
    wp_walk using (wpAny_updateSeq hl rfl (hz := hs1) (_hz' := hz')), wpAny_loadPart' hl, wpAny_loadPart' hb
    exact ⟨_, rfl, h⟩
/-- xs.extend(t), t a tuple -/
def rExtT : V → List V → Hp → VK → Prop := fun x vs H Q => ∃ l b xs zs, x = .ref l ∧ vs = [.ref b] ∧ H l = some (.lst xs) ∧ H b = some (.tup zs) ∧ xs.length + zs.length ≤ sizeLine ∧ Q .non (upd H l (.lst (xs ++ zs)))
theorem mt_extT : MtM X "list.extend" rExtT := fun pins s σ H x vs v us Q I rx rv ⟨l, b, xs, zs, ex, ev, hH, hB, hz, q⟩ => by
  subst ex; subst ev
  cases rx
  obtain ⟨u, rfl, ru⟩ := rv.one
  cases ru
  obtain ⟨z, its, n, r, hl, e⟩ := I.lstM hH
  obtain ⟨z2, its2, r2, ob, e2, hc, m, hd⟩ := (show ObjOk X.prog X.w H s.heap b (.tup zs) from I.hok b _ hB)
  have hl2 := r2.length
  have big : its.toArray.size + its2.toArray.size ≤ sizeLine := by simp only [List.size_toArray]; omega
  have door : ¬ (!its.toArray.isEmpty && Builtin.List.listTooLong (its.toArray.size + its2.toArray.size)) = true := by rw [notLongL big, Bool.and_false]; exact Bool.false_ne_true
  obtain ⟨oc, od, dt, sl⟩ := ob
  simp only at hc hd
  subst hc; subst hd
  refine call_meets F.slot_list_extend ⟨_, e, rfl⟩ F.entry_list_extend (F.args_list_extend_2 _ _) (ext_tup l its.toArray n b od sl its2.toArray m door (by simp only [List.size_toArray]; omega) (by omega)) ⟨e, e2, ?_⟩
  refine ⟨.non, _, I.lset (its' := its ++ its2) hH e (by simp) (r.append r2) ?_, rfl, q⟩
  rw [List.length_append]; omega
end
end K88
/-! for i, x in enumerate(reversed(t)), t a tuple. -/
namespace K88
open PySem PySem.Spec PyProof.Rows L2 Evl RT
section
variable {prog : Program} {w : World} {A : Around} {E : Value → Shared → Prop} {s : Shared}
theorem nextOf_rt_item {it t : Addr} {i : Nat} {items : Array Value} {x : Value} {Q : Value → Shared → Prop} (hit : IsRt s.heap it t (i : Int)) (ht : IsTup s.heap t items) (hx : items[i]? = some x) (hsz : items.size ≤ sizeLine)
    (hQ : ∀ h', IsRt h' it t ((i : Int) - 1) → Heap.SameBut it s.heap h' → Q x { s with heap := h', toks := s.toks + 1 }) : wpAny (model prog w) A (Builtin.SmallTypes.nextOf (.ref it)) Q E s := by
  obtain ⟨o, ho, hc, hd⟩ := id hit
  have hi : i < items.size := (Array.getElem?_eq_some_iff.mp hx).1
  have hT : s.TypeIs (.ref t) "tuple" := IsTup.typeOf' ht
  rw [sizeLine_eq] at hsz
  unfold Builtin.SmallTypes.nextOf
  refine wpAny_bind (wpAny_callSpecial?_slot (name := Str.ofString "__next__") hit.typeIs slot_rt_next (wpAny_call_entry slot_rt_next hit.typeIs entry_rt_next ?_ (args_rt_next _)))
  unfold Builtin.«reversed.__next__»
  refine wpAny_bind (wpAny_of_eq (a := (Value.ref it, [])) rfl ?_)
  try dsimp only
  refine wpAny_bind (wpAny_field ho hd (x := .ref t) rfl ?_)
  try dsimp only
  refine wpAny_bind (wpAny_field ho hd (x := rawInt (i : Int)) rfl ?_)
  show wpAny _ _ (if (i : Int) < 0 then _ else _) _ _ s
  rw [if_neg (by omega)]
  try dsimp only
  refine wpAny_bind (wpAny_specialOf hT get_tuple ?_)
  try dsimp only
  try rw [if_neg (by decide)]
  try dsimp only
  refine wpAny_bind (wpAny_mkInt ?_)
  refine wpAny_bind (wpAny_attempt ?_)
  have fin : seqIndex? (i : Int) items.size = some i := seqIndex_of (by omega) (by omega)
  refine PyProof.Rows.getItem_tuple (s := { s with toks := s.toks + 1 }) ht (by omega) (by omega) fin hx ?_
  try dsimp only
  refine wpAny_bind (wpAny_field (s := { s with toks := s.toks + 1 }) ho hd (x := rawInt (i : Int)) rfl ?_)
  try dsimp only
  refine wpAny_bind (wpAny_setField (s := { s with toks := s.toks + 1 }) ho hd (by simp) ?_)
  first
  | refine wpAny_pure ⟨x, rfl, wpAny_pure (hQ _ ?_ (Heap.SameBut.update ..))⟩
  | refine wpAny_bind (wpAny_pure (wpAny_pure ⟨x, rfl, wpAny_pure (hQ _ ?_ (Heap.SameBut.update ..))⟩))
  exact ⟨_, Heap.get?_update_self _ ho (Obj.isFreed_of_fields (Obj.data_mapFields hd _)), (Obj.cls_mapFields ..).trans hc, by
    rw [Obj.data_mapFields hd]; simp⟩
theorem nextOf_rt_end {it t : Addr} {Q : Value → Shared → Prop} (hh : A.handled = none) (hit : IsRt s.heap it t (-1))
    (hQ : ∀ h' e, Heap.ExtBut it s.heap h' → (∃ o, h'.get? e = some o ∧ o.cls = .type "StopIteration") → E (.ref e) { s with heap := h' }) : wpAny (model prog w) A (Builtin.SmallTypes.nextOf (.ref it)) Q E s := by
  obtain ⟨o, ho, hc, hd⟩ := id hit
  unfold Builtin.SmallTypes.nextOf
  refine wpAny_bind (wpAny_callSpecial?_slot (name := Str.ofString "__next__") hit.typeIs slot_rt_next (wpAny_call_entry slot_rt_next hit.typeIs entry_rt_next ?_ (args_rt_next _)))
  unfold Builtin.«reversed.__next__»
  refine wpAny_bind (wpAny_of_eq (a := (Value.ref it, [])) rfl ?_)
  try dsimp only
  refine wpAny_bind (wpAny_field ho hd (x := .ref t) rfl ?_)
  try dsimp only
  refine wpAny_bind (wpAny_field ho hd (x := rawInt (-1)) rfl ?_)
  show wpAny _ _ (if (-1 : Int) < 0 then _ else _) _ _ s
  rw [if_pos (by decide)]
  try dsimp only
  refine wpAny_bind (wpAny_rule ?_)
  refine wpAny_bind ?_
  wp_delta
  refine wpAny_bind (wpAny_setField ho hd (by simp) ?_)
  have ho2 := Heap.get?_update_self (Obj.mapFields (·.setIfInBounds 1 (rawInt (-1)))) ho (Obj.isFreed_of_fields (Obj.data_mapFields hd _))
  refine wpAny_setField (s := { s with heap := s.heap.update it (Obj.mapFields (·.setIfInBounds 1 (rawInt (-1)))) }) ho2 (Obj.data_mapFields hd _) (by simp) ?_
  try dsimp only
  first
  | show wpAny _ _ (newExc (.type "StopIteration") [] >>= _) _ _ _
  | (refine wpAny_bind ?_; show wpAny _ _ (newExc (.type "StopIteration") [] >>= _) _ _ _)
  | (refine wpAny_bind ?_; wp_delta; show wpAny _ _ (newExc (.type "StopIteration") [] >>= _) _ _ _)
  refine wpAny_bind ?_
  simp only [newExc, newTuple]
  refine wpAny_bind (wpAny_newObj_type ?_ (by size_fits))
  refine wpAny_bind (m := firstArgMember _ _) (wpAny_of_eq (a := Value.none) (by first | rfl | (simp only [firstArgMember]; rfl)) ?_)
  refine wpAny_newObj_type ?_ (by size_fits)
  simp only [raiseNew]
  refine wpAny_bind (wpAny_handled ?_)
  first | rw [show A.in1.handled = none from hh] | rw [hh]
  refine wpAny_bind (wpAny_pure (wpAny_throw ?_))
  refine hQ _ _ ?_ ⟨_, Heap.get?_push_size _ rfl, rfl⟩
  refine ((?_ : Heap.ExtBut it s.heap _).push _).push _
  exact fun b ob hb e => (Heap.get?_update_other _ _ (Ne.symm hb)).trans ((Heap.get?_update_other _ _ (Ne.symm hb)).trans e)
/-- enumerate(it), it a reversed object -/
theorem call_enum_rt {t it : Addr} {i : Int} {Q : Value → Shared → Prop} (hit : IsRt s.heap it t i)
    (h : ∀ h', IsEnum h' s.heap.objs.size it 0 .none → h'.objs.size = s.heap.objs.size + 1 → (∀ b o, s.heap.get? b = some o → h'.get? b = some o) → Q (.ref s.heap.objs.size) { s with heap := h' }) :
    wpAny (model prog w) A (call (.type "enumerate") [.ref it]) Q E s := by
  have mt : Meets (Builtin.«enumerate.__new__» ⟨[.type "enumerate", .ref it], []⟩) (fun _ R s => IsRt s.heap it t i ∧
      R (.ok (.ret (.ref s.heap.objs.size))) { s with heap := s.heap.push { cls := .type "enumerate", data := .fields #[.none, .bool false, .ref it, rawInt 0, .none, .none] } }) :=
    .of_wp fun prog w A R s h => by
      obtain ⟨hp, g, d, tk, os⟩ := s
      obtain ⟨h1, h⟩ := h
      have hsub := sub_enumerate
      have q1 : ∀ {A' : Around} {E : Value → Shared → Prop} {Q : Value → Shared → Prop}, Q (.ref it) ⟨hp, g, d, tk, os⟩ → wpAny (model prog w) A' (pyIter (.ref it)) Q E ⟨hp, g, d, tk, os⟩ := fun q => iter_rt h1 q
      wp_walk using q1
      refine wpAny_stack_any fun st => wpAny_pure ?_
      split
      · rename_i c _ _ _ _ _
        cases (c == Value.type "enumerate")
        · wp_walk using q1
          exact ⟨_, rfl, h⟩
        · wp_walk using q1
          exact ⟨_, rfl, h⟩
      · wp_walk using q1
        exact ⟨_, rfl, h⟩
  refine callType_new F.called_enumerate (by decide) (F.typeCall_enumerate_1 _) (F.newCall_enumerate_1 _) (fun obj => F.args_object_init_2 obj _) F.entry_enumerate_new mt ⟨hit, ?_⟩
  have he : IsEnum (s.heap.push { cls := .type "enumerate", data := .fields #[.none, .bool false, .ref it, rawInt 0, .none, .none] }) s.heap.objs.size it 0 .none := Heap.get?_push_size _ rfl
  exact ⟨⟨_, he, rfl⟩, h _ he (Heap.size_push ..) fun b o x => Heap.get?_push_of_some _ x⟩
end
/-- what a reversed tuple draws -/
theorem drawsRt {prog : Program} {w : World} {A : Around} (hh : A.handled = none) (it t : Addr) (hne : t ≠ it) (items : Array Value) (hz : items.size ≤ sizeLine) :
    Draws prog w A it [it, t] items.size (fun i v => items[items.size - 1 - i]? = some v) (fun i h => i ≤ items.size ∧ IsRt h it t ((items.size : Int) - 1 - (i : Nat)) ∧ IsTup h t items) where
  live := fun _ _ st => let ⟨o, ho, _⟩ := st.2.1; ⟨o, ho⟩
  frame := fun _ _ _ st hk => ⟨st.1, st.2.1.at fun o e => hk it (by simp) o e, let ⟨o, e, r⟩ := st.2.2; ⟨o, hk t (by simp) o e, r⟩⟩
  item := fun i s Q E hi st hQ => by
    obtain ⟨_, hit, ht⟩ := st
    have e1 : (items.size : Int) - 1 - ((i : Nat) : Int) = ((items.size - 1 - i : Nat) : Int) := by omega
    rw [e1] at hit
    have hlt : items.size - 1 - i < items.size := by omega
    refine nextOf_rt_item hit ht (x := items[items.size - 1 - i]) (by simp [hlt]) hz fun h' hit' hs' => ?_
    refine hQ _ h' _ (by simp [hlt]) ⟨hi, ?_, ?_⟩ hs'
    · have e2 : ((items.size - 1 - i : Nat) : Int) - 1 = (items.size : Int) - 1 - ((i + 1 : Nat) : Int) := by omega
      rw [← e2]; exact hit'
    · obtain ⟨o, e, r⟩ := ht
      exact ⟨o, (hs'.2 t hne).trans e, r⟩
  done := fun s Q E st hE => by
    obtain ⟨_, hit, ht⟩ := st
    have e1 : (items.size : Int) - 1 - ((items.size : Nat) : Int) = -1 := by omega
    rw [e1] at hit
    exact nextOf_rt_end hh hit hE
end K88
namespace K88
open PySem PySem.Spec PyProof.Rows L2 Evl RT
/-- enumerate over a reversed tuple: the turns -/
def IteR (K : PySem.W.Frag) (a : Addr) (n : Nat) : It :=
  ⟨fun i H => i < n ∧ ∃ (xs : List V) (x : V), SqT K H a xs ∧ xs.length = n ∧ xs[n - 1 - i]? = some x,
   fun i H v H' => ∃ T x, v = .ref T ∧ H T = none ∧ H' = upd H T (.tup [.int (i : Nat), x]) ∧ ∀ xs, SqT K H a xs → xs[n - 1 - i]? = some x,
   fun i H => n ≤ i ∧ ∃ xs : List V, SqT K H a xs ∧ xs.length = n⟩
theorem turn_enumR {P : Program} {w : World} {K : PySem.W.Frag} {elts : List Expr} {kk : Nat} {tpos : Pos} (a e it : Addr) (n : Nat) :
    Turn P w K (.Tuple elts kk tpos) (IteR K a n) [e, it] e (fun i h => (∃ old, IsEnum h e it ((i : Nat) : Int) old) ∧ (i ≤ n ∧ IsRt h it a ((n : Int) - 1 - (i : Nat))) ∧ e ≠ it ∧ a ≠ it ∧ a ≠ e) where
  mem := by simp
  obj := fun i h st b hb => by
    obtain ⟨⟨old, he⟩, ⟨_, o, ho, hc, hd⟩, _⟩ := st
    have e' : b = e ∨ b = it := by simpa using hb
    rcases e' with z | z
    · rw [z]; exact ⟨_, he, fun v q => nomatch q⟩
    · rw [z]; exact ⟨o, ho, fun v q => by rw [hd] at q; cases q⟩
  keep := fun i h h' st k => let ⟨⟨old, he⟩, ⟨hi, hr⟩, r⟩ := st; ⟨⟨old, k e (by simp) _ he⟩, ⟨hi, hr.at fun o q => k it (by simp) o q⟩, r⟩
  item := by
    intro X hP hw hK hc i pins s σ H E I hf st hg
    subst hP hw hK
    obtain ⟨⟨old, he⟩, ⟨hin, hrt⟩, hne, hai, hae⟩ := st
    obtain ⟨hlt, xs, x, hq, hlen, hx⟩ := hg
    obtain ⟨its, rv, p, hz⟩ := I.tuple hq
    obtain ⟨u, hu, ru⟩ := rv.get hx
    have hl := rv.length
    have hn : its.toArray.size = n := by rw [List.size_toArray, ← hl]; exact hlen
    subst hn
    have hel : e < s.heap.objs.size := Heap.lt_size he
    have hil : it < s.heap.objs.size := by obtain ⟨_, q, _⟩ := hrt; exact Heap.lt_size q
    have D := drawsRt (prog := X.prog) (w := X.w) (A := X.A.in1) (show X.A.in1.handled = none from I.ok.hd hc) it a hai its.toArray (by rw [List.size_toArray, ← hl]; exact hz)
    have hef : e ∉ ([it, a] : List Addr) := fun z => by
      rcases List.mem_cons.mp z with z | z
      · exact hne z
      · exact hae (List.mem_singleton.mp z).symm
    have hc0 : ((i : Nat) : Int) = ((i : Nat) : Int) := rfl
    refine wpAny_pyNext_enum_itemC D he ⟨hin, hrt, p⟩ hlt hne hef fun x' h' tk hP ho hs' hT hsz hk => ?_
    have ex' : x' = u := by
      have q1 : its.toArray[its.toArray.size - 1 - i]? = some x' := hP
      have q2 : its.toArray[its.toArray.size - 1 - i]? = some u := by simpa using hu
      rw [q1] at q2; exact Option.some.inj q2
    subst ex'
    refine ⟨_, rfl, wpAny_letOwnedTupleGo_enum (s := { s with heap := h', toks := tk + 1 }) ho fun h'' he' sb => ?_⟩
    have hT2 : h''.get? s.heap.objs.size = some { cls := .type "tuple", data := .seq #[.int i tk, x'] } := (sb.2 _ (Nat.ne_of_gt hel)).trans hT
    have new : ObjOk X.prog X.w (upd H s.heap.objs.size (.tup [.int (i : Nat), x])) h'' s.heap.objs.size (.tup [.int (i : Nat), x]) :=
      ⟨by show 2 ≤ sizeLine; decide, [.int i tk, x'], .cons ⟨_, rfl⟩ (.cons ru .nil), ⟨_, hT2, rfl, _, rfl⟩⟩
    have I1 : Inv X pins σ (upd H s.heap.objs.size (.tup [.int (i : Nat), x])) { s with heap := h'', toks := tk + 1 } :=
      I.turnedNew (ch := [e, it]) (fun b ob hb q => (sb.2 b (fun z => hb (by simp [z]))).trans (hk b ob (fun z => hb (by simp [z])) (fun z => hb (by simp [z])) q)) hf (Nat.le_refl _) new
    refine ⟨.ref s.heap.objs.size, _, I1, rfl, ⟨_, x, rfl, I.hok.fresh (Nat.le_refl _), rfl, fun ys hy => by rw [I.tuple_inj hy hq]; exact hx⟩, ⟨⟨x', ?_⟩, ⟨hs'.1, hs'.2.1.at fun o q => (sb.2 it (Ne.symm hne)).trans q⟩, hne, hai, hae⟩, fun b hb => ?_⟩
    · have e1 : ((i + 1 : Nat) : Int) = (i : Int) + 1 := by omega
      rw [e1]; exact he'
    · have hb' : b < s.heap.objs.size := by
        have e' : b = e ∨ b = it := by simpa using hb
        rcases e' with z | z
        · rw [z]; exact hel
        · rw [z]; exact hil
      rw [upd_ne (Nat.ne_of_lt hb')]
      exact (hf b hb).1
  done := by
    intro X hP hw hK hc i pins s σ H E I hf st hg
    subst hP hw hK
    obtain ⟨⟨old, he⟩, ⟨hin, hrt⟩, hne, hai, hae⟩ := st
    obtain ⟨hge, xs, hq, hlen⟩ := hg
    obtain ⟨its, rv, p, hz⟩ := I.tuple hq
    have hl := rv.length
    have hn : its.toArray.size = n := by rw [List.size_toArray, ← hl]; exact hlen
    subst hn
    obtain ⟨f0, f1, f2, f3, f4, f5⟩ := hf it (by simp)
    have D := drawsRt (prog := X.prog) (w := X.w) (A := X.A.in1) (show X.A.in1.handled = none from I.ok.hd hc) it a hai its.toArray (by rw [List.size_toArray, ← hl]; exact hz)
    have ei : i = its.toArray.size := Nat.le_antisymm hin hge
    rw [ei] at hrt hin
    exact wpAny_pyNext_enum_endD D he ⟨hin, hrt, p⟩ fun h' eb => ⟨rfl, I.turned (t' := s.toks) (fun b o hb q => eb b o hb q) f0 f1 f3 f4 f5⟩
  self := fun A i s Q E st h => let ⟨⟨_, he⟩, _⟩ := st; wpAny_pyIter_enum he h
/-- the loop's reading -/
def iEnumR (K : PySem.W.Frag) (te : TE) : TI := fun σ H R => te σ H fun v H1 => ∃ (a : Addr) (xs : List V), v = .ref a ∧ SqT K H1 a xs ∧ R (IteR K a xs.length) H1
theorem pi_enumR {X : Cx} {e : Expr} {te : TE} {p pos p2 pos2 tpos : Pos} {elts : List Expr} {kk : Nat} (hg : Gl X "enumerate") (hm : X.mg "enumerate" = none) (hg2 : Gl X "reversed") (hm2 : X.mg "reversed" = none) (he : PE X e te)
    (hs : starEach [e] X.env = (false, eval e X.env) :: starEach [] X.env := by rfl)
    (hs2 : starEach [.Call (.Name "reversed" p2) [e] [] pos2] X.env = (false, eval (.Call (.Name "reversed" p2) [e] [] pos2) X.env) :: starEach [] X.env := by rfl) :
    PI X (.Tuple elts kk tpos) (.Call (.Name "enumerate" p) [.Call (.Name "reversed" p2) [e] [] pos2] [] pos) (iEnumR X.K te) := by
  refine ⟨fun pins s σ H R I h => ?_⟩
  refine Call_ (ld_blt I hg hm boot_enumerate (PyProof.Rows.callWith_type1 (args_cons (Call_ (ld_blt I hg2 hm2 PyProof.Rows.boot_reversed (PyProof.Rows.callWith_type1 (args_cons (thn (he.run pins s σ H _ I h) fun u s1 ⟨v, H1, I1, r1, q1⟩ => args_nil ?_) hs) hs rfl))) hs2) hs2 rfl))
  obtain ⟨a, xs, ev, hq, q⟩ := q1
  subst ev
  obtain rfl : u = Value.ref a := r1
  obtain ⟨its, rv, p', hz⟩ := I1.tuple hq
  have hl := rv.length
  have hn := line63
  refine call_reversed_tup p' (fun A E Q k => len_tuple p' (by simp only [List.size_toArray] <;> omega) k) (args_nil ?_)
  have al : a < s1.heap.objs.size := p'.lt
  have hit0 : IsRt (s1.heap.push (rtObj a ((its.toArray.size : Int) - 1))) s1.heap.objs.size a ((its.toArray.size : Int) - 1) := ⟨_, Heap.get?_push_size _ rfl, rfl, rfl⟩
  refine call_enum_rt (s := { s1 with heap := s1.heap.push (rtObj a ((its.toArray.size : Int) - 1)), toks := s1.toks + 1 + 1 }) hit0 fun h' he' hsz hk => wpAny_pyIter_enum he' ?_
  have z1 : (s1.heap.push (rtObj a ((its.toArray.size : Int) - 1))).objs.size = s1.heap.objs.size + 1 := Heap.size_push ..
  have he2 : IsEnum h' (s1.heap.objs.size + 1) s1.heap.objs.size 0 .none := by rw [← z1]; exact he'
  have k2 : ∀ b o, s1.heap.get? b = some o → h'.get? b = some o := fun b o e => hk b o (Heap.get?_push_of_some _ e)
  have I2 : Inv X pins σ H1 { s1 with heap := h', toks := s1.toks + 1 + 1 } := I1.kept (t' := s1.toks + 1 + 1) k2
  have e1 : ((its.toArray.size : Nat) : Int) - 1 = (xs.length : Int) - 1 - ((0 : Nat) : Int) := by simp only [List.size_toArray]; omega
  refine ⟨s1.heap.objs.size + 1, [s1.heap.objs.size + 1, s1.heap.objs.size], _, _, H1, by rw [z1], I2, turn_enumR a (s1.heap.objs.size + 1) s1.heap.objs.size xs.length, ⟨⟨.none, he2⟩, ⟨Nat.zero_le _, ?_⟩, Nat.succ_ne_self _, Nat.ne_of_lt al, Nat.ne_of_lt (Nat.lt_succ_of_lt al)⟩, fun b hb => ?_, q⟩
  · rw [← e1]
    exact hit0.at fun o q => hk _ o q
  · have e' : b = s1.heap.objs.size + 1 ∨ b = s1.heap.objs.size := by simpa using hb
    have hle : s1.heap.objs.size ≤ b := by
      rcases e' with z | z
      · rw [z]; exact Nat.le_add_right _ _
      · rw [z]; exact Nat.le_refl _
    exact I1.fpOk hle (I1.hok.fresh hle)
/-- the loop by a word -/
theorem for_IteR {K : PySem.W.Frag} {a : Addr} {xs : List V} {g : TG} {tb : TS} {D : Ends} {σ : L2.St} {H : Hp} (Pv : Nat → L2.St → Hp → Prop) (h0 : Pv 0 σ H) (hq : ∀ i σ H, Pv i σ H → SqT K H a xs)
    (hs : ∀ (i : Nat) (x : V) (T : Addr) (σ : L2.St) (H : Hp), i < xs.length → xs[xs.length - 1 - i]? = some x → H T = none → Pv i σ H → g (.ref T) σ (upd H T (.tup [.int (i : Nat), x])) fun σ2 H2 => tb { D with nx := Pv (i + 1), ct := Pv (i + 1), bk := D.nx } σ2 H2) (hd : ∀ σ H, Pv xs.length σ H → D.nx σ H) :
    ∃ W : Nat → Nat → L2.St → Hp → Prop, (∃ m, W 0 m σ H) ∧ ∀ i m σ H, W i m σ H →
      ((IteR K a xs.length).stop i H ∧ D.nx σ H) ∨ ((IteR K a xs.length).go i H ∧ ∃ N : L2.St → Hp → Prop, (∀ σ' H', N σ' H' → ∃ m', m' < m ∧ W (i + 1) m' σ' H') ∧ ∀ v H', (IteR K a xs.length).yld i H v H' → g v σ H' fun σ2 H2 => tb { D with nx := N, ct := N, bk := D.nx } σ2 H2) := by
  refine ⟨fun i m σ H => m = xs.length - i ∧ i ≤ xs.length ∧ Pv i σ H, ⟨xs.length, rfl, Nat.zero_le _, h0⟩, ?_⟩
  rintro i m σ H ⟨rfl, hi, p⟩
  by_cases hlt : i < xs.length
  · have hj : xs.length - 1 - i < xs.length := by omega
    have hx : xs[xs.length - 1 - i]? = some xs[xs.length - 1 - i] := List.getElem?_eq_getElem hj
    refine .inr ⟨⟨hlt, xs, _, hq i σ H p, rfl, hx⟩, Pv (i + 1), fun σ' H' p' => ⟨xs.length - (i + 1), by omega, rfl, hlt, p'⟩, fun v H' y => ?_⟩
    obtain ⟨T, x, ev, hT, eH, hy⟩ := y
    subst ev; subst eH
    exact hs i x T σ _ hlt (hy xs (hq i σ _ p)) hT p
  · have e : i = xs.length := by omega
    subst e
    exact .inl ⟨⟨Nat.le_refl _, xs, hq _ _ _ p, rfl⟩, hd σ H p⟩
end K88
namespace K88
open PySem PySem.Spec PyProof.Rows L2 Evl
section
variable {X : Cx}
/-- repr of data -/
def rRepr (K : PySem.W.Frag) : List V → Hp → VK → Prop := fun xs H Q => ∃ x d, xs = [x] ∧ Dp K H x d ∧ d.showable = true ∧ SeqAt.shaped d = true ∧ d.shown.length ≤ sizeLine ∧ Q (.str d.shown) H
theorem call_reprD (hg : X.A.guards = some []) (hu : X.A.units + 70 < cLine) : CallR X (.builtin "repr") (rRepr X.K) := fun pins s σ H xs us Q I r ⟨x, d, ex, hd, hs, hsh, hz, q⟩ => by
  subst ex
  obtain ⟨u, rfl, ru⟩ := r.one
  obtain ⟨as, rd⟩ := Dp.reads I d x u hd ru
  have hdep := SeqAt.depth_of_shaped hsh
  have hno : d.hasDict = false := PyData.hasDict_of_canLay d (SeqAt.canLay_of_shaped hsh)
  cases rd with
  | none => exact PySem.P.repr_of_none ⟨.str _, H, I.tok _, ⟨_, rfl⟩, q⟩
  | bool b => exact PySem.P.repr_of_bool ⟨.str _, H, I.tok _, ⟨_, rfl⟩, q⟩
  | int i t => exact PySem.P.repr_of_int (by simpa [PyData.showable] using hs) ⟨.str _, H, I.tok _, ⟨_, rfl⟩, q⟩
  | str y t => exact PySem.P.repr_of_str ⟨.str _, H, I.tok _, ⟨_, rfl⟩, q⟩ (by simpa [PyData.shown] using hz)
  | list h1 h2 h3 h4 =>
    refine PySem.repr_of_reads' (.list h1 h2 h3 h4) hs (PyData.noDict_hsm hno) hg (by omega) (fun _ _ e => e) (fun h' v tk hk => ?_) hz
    exact ⟨.str _, H, I.kept (t' := tk) hk, ⟨_, rfl⟩, q⟩
  | tuple h1 h2 h3 h4 =>
    refine PySem.repr_of_reads' (.tuple h1 h2 h3 h4) hs (PyData.noDict_hsm hno) hg (by omega) (fun _ _ e => e) (fun h' v tk hk => ?_) hz
    exact ⟨.str _, H, I.kept (t' := tk) hk, ⟨_, rfl⟩, q⟩
  | dict => cases hno
/-- a text times a number -/
def rMulS : R2 := fun x y H Q => ∃ z n, x = .str z ∧ y = .int n ∧ PySem.MulOk z n ∧ Q (.str (Txt.mul z n)) H
theorem op_mulS : OpR X (binaryOp .Mult) rMulS := fun pins s σ H x y v u Q I rx ry ⟨z, n, ex, ey, hok, q⟩ => by
  subst ex; subst ey
  obtain ⟨t, rfl⟩ := rx
  obtain ⟨t', rfl⟩ := ry
  exact SB.mul hok fun t' k => ⟨.str _, H, I.tok k, ⟨_, rfl⟩, q⟩
theorem mulOk60 (c : Nat) (n : Nat) (h1 : 2 ≤ n) (h2 : n ≤ 100) : PySem.MulOk ⟨#[c]⟩ (n : Int) := by
  refine ⟨?_, fun _ _ => ?_, fun _ _ => ?_⟩
  · simp; omega
  · show ¬ ((1 : Int) > (2 ^ 63 - 1) / (n : Int))
    have : (1 : Int) ≤ (2 ^ 63 - 1) / (n : Int) := by
      refine Int.le_ediv_of_mul_le (by omega) ?_
      omega
    omega
  · show Builtin.Str.tooLong (1 * (n : Int).toNat) = false
    have : (n : Int).toNat = n := by simp
    rw [this, Nat.one_mul]
    unfold Builtin.Str.tooLong
    rw [sizeLine_eq]
    exact decide_eq_false (by omega)
/-- as FnOk, where no repr runs -/
structure FnG (P : Program) (w : World) (K : PySem.W.Frag) (mg : Str → Option Value) (base : Heap) (CXx : CXT) (k : Nat) (f : Addr) (fd : FuncData) (ps : List Str) (sp : Sp) : Prop where
  len : ∀ vs H Q E, sp vs H Q E → vs.length = ps.length
  run : ∀ (A : Around) (outer : List Env) (s : Shared) (H : Hp) (args : Args) (us : List Value) (vs : List V) (Q : VK) (E : XK), Room k A → A.guards = some [] → Env0 P w K mg base A outer s H → BindsTo s fd args (ps.zip us) → Vals vs us → sp vs H Q E →
    codeAny (model P w) A (.call (.ref f) args) (CR CXx outer P w H s Q E) s
theorem Fun.okG {P : Program} {w : World} {K : PySem.W.Frag} {mg : Str → Option Value} {base : Heap} {x qual : Str} {st : Stmt} {f : Addr} {fd : FuncData} {N ps : List Str} {k : Nat} {sp : Sp} (F : Fun K x qual st f fd) (S : FnScope N ps (defScope st)) (len : ∀ vs H Q E, sp vs H Q E → vs.length = ps.length)
    (hbody : ∀ (cdv : Value) (A : Around) (outer : List Env) (s : Shared) (H : Hp) (vs : List V) (Q : VK) (E : XK), Room k (A.deeper (envOfC qual (defScope st) s.heap.objs.size f cdv)) → A.guards = some [] → sp vs H Q E →
      ∃ t, PSs (cxOf CX0 P w K mg base N qual (defScope st) f cdv A outer s H E).nox (defBody st) t ∧ t { nx := fun _ H' => Q .non H', rt := Q } (L2.start N vs) H) : FnG P w K mg base CX0 (k + 1) f fd ps sp := by
  obtain ⟨oc, od, kV, doc, pm, an, cdv, ct, osl, rfl, lk, hcd⟩ := F.ex
  refine ⟨len, fun A outer s H args us vs Q E hr hg e0 hb r h => ?_⟩
  refine LamX.run_ofS lk hcd S hr e0 hb r (len _ _ _ _ h) fun hr' => ?_
  obtain ⟨t, ht, q⟩ := hbody cdv A outer s H vs Q E hr' hg h
  exact ⟨t, ht.nox, q⟩
variable {CXx : CXT} {k : Nat} {f : Addr} {fd : FuncData} {ps : List Str} {sp : Sp} {dvs : List V} {ds : List Value} {E : XK} {x : Str} {p pos : Pos} {e : Expr} {es : List Expr} {t : TA}
theorem pe_callG (F : FnG X.prog X.w X.K X.mg X.base CXx k f fd ps sp) (hr : Room k X.A) (hgd : X.A.guards = some []) (hg : Gl X x) (hm : X.mg x = some (.ref f)) (hk : PySem.W.keepIn X.K (.ref f) = true) (hb : Binds X.K fd ps []) (hx : Passes CXx X E)
    (ha : PA X (e :: es) t) (hdb : (x == ("__debug__" : Str)) = false := by decide) (he : starEach (e :: es) X.env = (false, eval e X.env) :: starEach es X.env := by rfl) (hpl : (backTo pos (starEach es X.env)).any (·.1) = false := by rfl) :
    PE X (.Call (.Name x p) (e :: es) [] pos) (tCall sp [] E t) := by
  refine ⟨fun pins s σ H Q I h => wpAny_Call_Name_kw (ld_glob I hg hm ?_ hdb)⟩
  refine PySem.W.callWith_K (h₀ := X.base) I.ok.mod.kin hk (thn (ha.run pos pins s σ H _ I h) fun us s1 ⟨vs, H1, I1, r, q⟩ => ⟨I1.kIn, ?_⟩) he hpl
  have q : sp (vs ++ []) H1 Q E := q
  rw [List.append_nil] at q
  have hl : (us ++ []).length = ps.length := by rw [List.append_nil, ← r.length]; exact F.len _ _ _ _ q
  have bb := hb s1 us I1.kIn hl
  rw [List.append_nil] at bb
  refine wpAny_call (codeAny_mono (F.run X.A X.stack s1 H1 ⟨us, []⟩ us vs Q E hr hgd I1.env0 bb r q) fun r s' hq => ?_)
  cases r with
  | error e => exact hx pins σ H1 s1 e s' I1 hq
  | ok fl => cases fl with
    | ret u => exact I1.after hq
    | next => exact False.elim hq
    | brk => exact False.elim hq
    | cont => exact False.elim hq
end
end K88
/-! An own error class over ValueError's own classes whose __init__ says super().__init__(text) and keeps a field. -/
namespace PySem
namespace ErrX
open PySem.W PySem.Calls PyProof.Rows PySem.HandSPX
abbrev L0 : Nat := 32
abbrev L1 : Nat := 33
abbrev L2 : Nat := 34
def eA (nf : Str) (p1 p2 p3 : Pos) (dd : Expr) : Arguments := { posonlyargs := [], args := [{ arg := "self", annotation := none, pos := p1 }, { arg := "text", annotation := none, pos := p2 }, { arg := nf, annotation := none, pos := p3 }], vararg := none, kwonlyargs := [], kw_defaults := [], kwarg := none, defaults := [dd] }
def eB (nf : Str) (q0 q1 q3 r1 r2 r3 r4 : Pos) : List Stmt :=
  [.Expr (.Call (.Attribute (.Call (.Name "super" q0) [] [] q1) "__init__" ⟨L1, 8, L1, 24⟩) [.Name "text" q3] [] ⟨L1, 8, L1, 30⟩) ⟨L1, 8, L1, 30⟩, .Assign [.Attribute (.Name "self" r1) nf r2] (.Name nf r3) r4]
def eS (nf : Str) : Scope := { kind := .function, names := [(PySem.Str.ofString "self", .local), (PySem.Str.ofString "text", .local), (nf, .local), (PySem.Str.ofString "__class__", .free), (PySem.Str.ofString "super", .globalImplicit)], isGenerator := false, isCoroutine := false, more := [] }
/-- what the written part says of such a class x, at C, and of its __init__, at fI; nf: the field -/
structure ErrTxt (P : Program) (K : Frag) (mg : Str → Option Value) (x nf : Str) (C fI : Addr) : Prop where
  gC : mg x = some (.ref C)
  cls : ∃ nm q N bs bm sn sub ab col dd k0 k1 k2 k3 k5, K.lookup C = some (excClassObj nm q C N bs bm true sn sub ab col dd k0 k1 k2 k3 k5 "ValueError.__new__") ∧ refsVE bm = true
  sa : findIn K (.ref C) "__setattr__" = some (some (.builtin "object.__setattr__"))
  ga : findIn K (.ref C) "__getattribute__" = some (some (.builtin "BaseException.__getattribute__"))
  gg : findIn K (.ref C) "__getattr__" = some none
  noN : findIn K (.ref C) nf = some none
  iC : findIn K (.ref C) "__init__" = some (some (.ref fI))
  tC : typeIn K (.ref fI) = some (.type "function")
  kC : keepIn K (.ref C) = true
  exC : subIn K (.ref C) (.type "BaseException") = some true
  veC : subIn K (.ref C) (.type "ValueError") = some true
  tyC : typeIn K (.ref C) = some (.type "type")
  hdC : hasDictIn K C = true
  mrC : mroIn K C (.ref C) = some true
  sup : ks_superIn K C C "__init__" = some (some (.builtin "ValueError.__init__"))
  opq : nsIn K cStatics "thirdparty.any" = some none
  nsup : mg "super" = none
  top : (P.main.scope.names.lookup ("super" : Str)).isSome = false
  fn : ∃ (oc : Value) (od : Option Addr) (kV doc pm : Value) (an : Option Addr) (ct : Value) (osl : Array (Option Value)) (p1 p2 p3 q0 q1 q3 r1 r2 r3 r4 : Pos) (ed : Expr) (T cda cc : Addr) (oT : Obj) (dv : Value) (n : Nat)
      (ccl cl : Value) (cdd cld : Option Addr) (ccs csl : Array (Option Value)) (vs : Array Value) (file : Str) (tf : Tok) (qual : Str),
    K.lookup fI = some ⟨oc, od, .func (ksFn "__init__" qual (eA nf p1 p2 p3 ed) (eB nf q0 q1 q3 r1 r2 r3 r4) (eS nf) (.ref T) kV doc pm an (.ref cda) ct cc), osl⟩ ∧ codeIn K (.ref cda) qual = true ∧
    K.lookup T = some oT ∧ oT.data = .seq #[dv] n ∧ K.lookup cda = some ⟨ccl, cdd, .fields vs, ccs⟩ ∧ vs[2]? = some (.str file tf) ∧ ((P.main.file : Str) == file) = true ∧ K.lookup cc = some ⟨cl, cld, .cell (some (.ref C)), csl⟩
/-- what __init__ leaves of a fresh exception at x -/
structure InitEnd (nf : Str) (h h' : Heap) (x C dx t1 : Addr) (v : Value) : Prop where
  keep : ∀ b o, b ≠ x → h.get? b = some o → h'.get? b = some o
  obj : h'.get? x = some { cls := .ref C, dict := some dx, data := .fields #[.ref t1, .none, .none, .none, .bool false, .none] }
  dbig : h.objs.size ≤ dx
  dne : dx ≠ x
  ns : h'.Ns1 dx (fun y => if y = nf then some v else none)
theorem ldX {M : Model} {s : Shared} {A : Around} {E : Value → Shared → Prop} {env : Env} {m : Str → Option Value} {x : Str} {pos : Pos} {v : Value} {Q : Value → Shared → Prop} (hn : s.heap.Ns env.locals m) (hv : m x = some v) (hk : env.scope.kind = .function) (hl : env.kindOf x = some .local) (hd : (x == ("__debug__" : Str)) = false) (h : Q v s) :
    wpAny M A (eval (.Name x pos) env) Q E s := wpAny_Name (wpAny_loadName_local hk hl hn hv h) hd
/-- how the three arguments are bound -/
def Bound (nf : Str) : Prop := ∀ (s : Shared) (qual : Str) (p1 p2 p3 : Pos) (ed : Expr) (body : List Stmt) (kV doc pm : Value) (an : Option Addr) (cda ct : Value) (cc TT : Addr) (oT : Obj) (dv : Value) (n : Nat) (x v1 v2 : Value), s.heap.get? TT = some oT → oT.data = .seq #[dv] n →
  BindsTo s (ksFn "__init__" qual (eA nf p1 p2 p3 ed) body (eS nf) (.ref TT) kV doc pm an cda ct cc) ⟨[x, v1, v2], []⟩ [("self", x), ("text", v1), (nf, v2)]
theorem bound_line : Bound "line" := fun _ _ _ _ _ _ _ _ _ _ _ _ _ _ _ _ _ _ _ _ _ h d => BindsTo.of_defaults rfl h d rfl rfl
section
variable {P : Program} {w : World} {A : Around} {E : Value → Shared → Prop} {R : Result → Shared → Prop} {s : Shared} {K : Frag} {mg mb : Str → Option Value} {xn nf : Str} {C fI : Addr}
/-- the built-in __init__ bound to the exception, called -/
theorem call_mw {hp : Heap} {g : Array GenState} {d : Drawn} {t : Nat} {os : OsState} {nm q : Str} {C N u e t0 : Addr} {bs bm : List Value} {hdct : Bool} {sn : List Str} {sub : List Value} {ab : Bool} {col : Option Bool} {dd : Option Addr} {k0 k1 k2 k3 k5 : Option Value} {rest : List Value} {Q : Value → Shared → Prop}
    (hC : hp.get? C = some (excClassObj nm q C N bs bm hdct sn sub ab col dd k0 k1 k2 k3 k5 "ValueError.__new__")) (he : hp.get? e = some (excO C t0)) (hu : hp.get? u = some (kxs_mw "ValueError.__init__" e)) (hz : rest.length ≤ sizeLine)
    (hq : ∀ h' t1, (∀ b o, b ≠ e → hp.get? b = some o → h'.get? b = some o) → h'.get? e = some (excO C t1) → Q .none ⟨h', g, d, t, os⟩) :
    wpAny (model P w) A (call (.ref u) rest) Q E ⟨hp, g, d, t, os⟩ := by
  refine wpAny_call (codeAny_of_tree ?_)
  show wpAny _ A.in1 (callAny (.ref u) ⟨rest, []⟩) _ _ _
  simp only [callAny]
  refine wpAny_bind (wpAny_load hu ?_)
  simp only [kxs_mw, show (Value.type "method-wrapper" == Value.type "method" || Value.type "method-wrapper" == Value.type "builtin_function_or_method" || Value.type "method-wrapper" == Value.type "method-wrapper") = true by decide, if_true]
  refine KFB.if_so (by decide) ?_
  refine wpAny_bind (check_bound_init F.excBase_ValueError.toExcCallFacts hC he rfl ?_)
  refine wpAny_bind (wpAny_pure (wpAny_pure ?_))
  refine ⟨plainId_quiet F.excBase_ValueError.init.plain _, codeAny_builtin F.excBase_ValueError.initEntry ?_⟩
  exact exc_init_tree (cls := .ref C) (t0 := t0) (dv := none) (c2 := .none) (c3 := .none) (b4 := .bool false) he hz fun h' k e' _ => hq h' _ k e'
theorem err_init (T : ErrTxt P K mg xn nf C fI) (bd : Bound nf) (n1 : nf ≠ "self") (n2 : nf ≠ "text") (n4 : nf ≠ "__class__") (n5 : nf ≠ "super") (n3 : (nf == ("__debug__" : Str)) = false) {x t0 : Addr} {v1 v2 : Value} (X : K.In s.heap) (hlim : s.heap.NoLimit) (G : s.heap.Ns mainGlobals mg) (B : s.heap.Ns builtinsNs mb) (hB : mb "super" = some (.type "super"))
    (hx : s.heap.get? x = some (excO C t0)) (hxK : ∀ b o, K.lookup b = some o → b ≠ x) (hroom : A.depth < recursionLimit) (hq : ∀ h' tk dx t1, InitEnd nf s.heap h' x C dx t1 v2 → R (.ok (.ret .none)) { s with heap := h', toks := tk }) :
    codeAny (model P w) A (.call (.ref fI) ⟨[.ref x, v1, v2], []⟩) R s := by
  obtain ⟨oc, od, kV, doc, pm, an, ct, osl, p1, p2, p3, q0, q1, q3, r1, r2, r3, r4, ed, TT, cda, cc, oT, dv, n, ccl, cl, cdd, cld, ccs, csl, vs, file, tf, qual, lF, hcd, lT, dT, lc, hvs, hfile, lcc⟩ := T.fn
  obtain ⟨nm, q, N, bs, bm, sn, sub, ab, col, dd, k0, k1, k2, k3, k5, hC, hbm⟩ := T.cls
  have hcl : clsIn K C = some { name := nm, bases := bs, mro := .ref C :: bm, ns := N, qualname := q, hasDict := true, slotNames := sn, subclasses := sub, abstract := ab, collection := col, hasDel := false } := by unfold clsIn; rw [hC] <;> rfl
  obtain ⟨hp, g, dr, tk0, os⟩ := s
  have lk1 : (eS nf).names.lookup (PySem.Str.ofString "self") = some NameKind.local := rfl
  have lk2 : (eS nf).names.lookup (PySem.Str.ofString "text") = some NameKind.local := rfl
  have lk3 : (eS nf).names.lookup nf = some NameKind.local := by
    have b1 : (nf == PySem.Str.ofString "self") = false := by simpa using n1
    have b2 : (nf == PySem.Str.ofString "text") = false := by simpa using n2
    simp [eS, List.lookup, b1, b2]
  have lkc : (eS nf).names.lookup (PySem.Str.ofString "__class__") = some NameKind.free := by
    have b1 : (PySem.Str.ofString "__class__" == nf) = false := by simpa using Ne.symm n4
    have c1 : (PySem.Str.ofString "__class__" == PySem.Str.ofString "self") = false := by decide
    have c2 : (PySem.Str.ofString "__class__" == PySem.Str.ofString "text") = false := by decide
    simp only [eS, List.lookup, b1, c1, c2]
    rfl
  have lks : (eS nf).names.lookup (PySem.Str.ofString "super") = some NameKind.globalImplicit := by
    have b1 : (PySem.Str.ofString "super" == nf) = false := by simpa using Ne.symm n5
    have c1 : (PySem.Str.ofString "super" == PySem.Str.ofString "self") = false := by decide
    have c2 : (PySem.Str.ofString "super" == PySem.Str.ofString "text") = false := by decide
    have c3 : (PySem.Str.ofString "super" == PySem.Str.ofString "__class__") = false := by decide
    simp only [eS, List.lookup, b1, c1, c2, c3]
    rfl
  refine ks_codeAny_call_defAt (binds := [("self", .ref x), ("text", v1), (nf, v2)]) hroom (X _ _ lF) rfl hlim (codeRec_of X hcd) rfl (bd _ _ _ _ _ _ _ _ _ _ _ _ _ _ _ _ _ _ _ _ _ (X _ _ lT) dT) ?_ ?_ (fun h1 hns hk1 => ?_)
  · intro y hy
    have hy : y ∈ (eS nf).names := hy
    simp only [eS, List.mem_cons, List.not_mem_nil, or_false] at hy
    rcases hy with rfl | rfl | rfl | rfl | rfl <;> exact fun z => nomatch z
  · intro y hy
    simp only [List.mem_cons, List.not_mem_nil, or_false] at hy
    rcases hy with rfl | rfl | rfl
    · exact lk1
    · exact lk2
    · exact lk3
  · refine ks_wpAt_execs_cons (ks_wpAt_Expr_any (ks_wpAt_MethodCall ?_))
    have X1 : K.In h1 := X.keeps hk1
    refine ks_wpAt_super_base (ar := { arg := "self", annotation := none, pos := p1 }) lks lkc (by decide) rfl (X1 _ _ lF) rfl rfl rfl (X1 _ _ lc) rfl hvs hfile T.top ?_
    refine ks_loadName_global rfl lks (loadGlobal_builtin (G.keeps hk1) T.nsup (B.keeps hk1) hB ⟨rfl, ?_⟩)
    refine wpAny_loadName_free rfl lkc rfl ⟨_, X1 _ _ lcc, rfl⟩ ?_
    have lself : (List.lookup (PySem.Str.ofString "self") ([(PySem.Str.ofString "self", Value.ref x), (PySem.Str.ofString "text", v1), (nf, v2)] : List (Str × Value)).reverse) = some (.ref x) := by
      have b1 : (PySem.Str.ofString "self" == nf) = false := by simpa using Ne.symm n1
      have c1 : (PySem.Str.ofString "self" == PySem.Str.ofString "text") = false := by decide
      show List.lookup (PySem.Str.ofString "self") [(nf, v2), (PySem.Str.ofString "text", v1), (PySem.Str.ofString "self", Value.ref x)] = _
      simp only [List.lookup, b1, c1, beq_self_eq_true]
    have ltext : (List.lookup (PySem.Str.ofString "text") ([(PySem.Str.ofString "self", Value.ref x), (PySem.Str.ofString "text", v1), (nf, v2)] : List (Str × Value)).reverse) = some v1 := by
      have b1 : (PySem.Str.ofString "text" == nf) = false := by simpa using Ne.symm n2
      show List.lookup (PySem.Str.ofString "text") [(nf, v2), (PySem.Str.ofString "text", v1), (PySem.Str.ofString "self", Value.ref x)] = _
      simp only [List.lookup, b1, beq_self_eq_true]
    have lnf : (List.lookup nf ([(PySem.Str.ofString "self", Value.ref x), (PySem.Str.ofString "text", v1), (nf, v2)] : List (Str × Value)).reverse) = some v2 := by
      show List.lookup nf [(nf, v2), (PySem.Str.ofString "text", v1), (PySem.Str.ofString "self", Value.ref x)] = _
      simp only [List.lookup, beq_self_eq_true]
    refine wpAny_loadName_local rfl lk1 hns lself ?_
    have hx1 : h1.get? x = some (excO C t0) := hk1 _ _ hx
    refine ks_wpAny_isType_cls (X1 _ _ hC) rfl ⟨rfl, ?_⟩
    refine ks_wpAny_call_super (X1 _ _ hC) rfl hx1 rfl (fun c z => nomatch z) (looks_mroIn X1 T.mrC) (fun h2 hso k2 => ?_)
    have X2 : K.In h2 := X1.keeps k2
    have I2 : InstAt h2 x (excO C t0) C none := ⟨k2 _ _ hx1, rfl, rfl, trivial⟩
    have hm := T.sup
    unfold ks_superIn at hm
    rw [hcl] at hm
    refine kxs_getMethod kxs_ValueError hso (looks_opaque X2 T.opq) (l₀ := .ref C :: bm) (fun A Q E s k q => wpAny_bind ((looks_clsIn X2 hcl) A _ E s k (wpAny_pure q))) rfl X2 hm (I2.type.andThen (looks_subIn X2 T.veC)) (ks_ne X2 I2 hcl) (by decide) ?_
    have k3 : ∀ b o, h2.get? b = some o → (h2.push (kxs_mw "ValueError.__init__" x)).get? b = some o := fun b o e => Heap.get?_push_of_some _ e
    have hu : (h2.push (kxs_mw "ValueError.__init__" x)).get? h2.objs.size = some (kxs_mw "ValueError.__init__" x) := Heap.get?_push_at rfl rfl
    have X3 := X2.keeps k3
    have hns3 := (hns.keeps k2).keeps k3
    refine kxs_callWith (i := "ValueError.__init__") (x := x) rfl (evalArgs_plain ?_)
    refine Calls.spliced_cons (ldX hns3 ltext rfl lk2 (by decide) (Calls.spliced_nil ⟨hu, ?_⟩))
    refine call_mw (X3 _ _ hC) (k3 _ _ (k2 _ _ hx1)) hu (by rw [sizeLine_eq]; exact (by decide : 1 ≤ 16777216)) fun h4 t4 k4 hx4 => ?_
    have X4 : K.In h4 := fun b o e => k4 b o (hxK b o e) (X3 b o e)
    have xlt : x < hp.objs.size := Heap.lt_size hx
    have hns4 : h4.Ns hp.objs.size _ := hns3.at fun o e => k4 _ o (Nat.ne_of_gt xlt) e
    show wpAt _ _ _ (execs [_] _) _ _ _
    refine ks_wpAt_execs_cons (ks_wpAt_Assign_Attr (wpAt_of_wpAny ?_))
    refine ldX hns4 lnf rfl lk3 n3 (ldX hns4 lself rfl lk1 (by decide) ?_)
    refine set_plain X4 (ox := excO C t4) (od := none) ⟨hx4, rfl, rfl, trivial⟩ T.sa ?_
    refine exc_osa X4 hx4 hcl (show refsVE (.ref C :: bm) = true from hbm) rfl T.noN (fun h5 tk5 dx k5 dn dne hx5 hn5 => ?_)
    refine wpAt_of_wpAny (wpAny_execs_nil (hq h5 tk5 dx t4 ⟨fun b o hb e => ?_, hx5, ?_, dne, hn5⟩))
    · exact k5 b o hb (k4 b o hb (k3 b o (k2 b o (hk1 b o e))))
    · have z1 : hp.objs.size < h4.objs.size := hns4.lt
      exact Nat.le_of_lt (Nat.lt_of_lt_of_le z1 dn)
/-- a made error -/
structure Made (nf : Str) (h h' : Heap) (e C d : Addr) (v : Value) : Prop where
  keep : ∀ b o, h.get? b = some o → h'.get? b = some o
  new : h.objs.size ≤ e
  obj : ∃ oe vs, h'.get? e = some oe ∧ oe.cls = .ref C ∧ oe.dict = some d ∧ oe.data = .fields vs ∧ vs[1]? = some .none
  dbig : h.objs.size ≤ d
  dne : d ≠ e
  ns : h'.Ns1 d (fun y => if y = nf then some v else none)
theorem err_made (T : ErrTxt P K mg xn nf C fI) (bd : Bound nf) (n1 : nf ≠ "self") (n2 : nf ≠ "text") (n4 : nf ≠ "__class__") (n5 : nf ≠ "super") (n3 : (nf == ("__debug__" : Str)) = false) {v1 v2 : Value} (X : K.In s.heap) (hlim : s.heap.NoLimit) (G : s.heap.Ns mainGlobals mg) (B : s.heap.Ns builtinsNs mb) (hB : mb "super" = some (.type "super"))
    (hroom : A.depth + 1 < recursionLimit) (hq : ∀ h' tk e d, Made nf s.heap h' e C d v2 → R (.ok (.ret (.ref e))) { s with heap := h', toks := tk }) :
    codeAny (model P w) A (.call (.ref C) ⟨[v1, v2], []⟩) R s := by
  obtain ⟨nm, q, N, bs, bm, sn, sub, ab, col, dd, k0, k1, k2, k3, k5, hC, hbm⟩ := T.cls
  obtain ⟨hp, g, dr, tk, os⟩ := s
  have k : ∀ b o, hp.get? b = some o → ((hp.push (kdv_tup [v1, v2])).push (excO C hp.objs.size)).get? b = some o := fun b o e => Heap.get?_push_of_some _ (Heap.get?_push_of_some _ e)
  have hget : ((hp.push (kdv_tup [v1, v2])).push (excO C hp.objs.size)).get? (hp.objs.size + 1) = some (excO C hp.objs.size) := by heap_get
  have hxK : ∀ b o, K.lookup b = some o → b ≠ hp.objs.size + 1 := fun b o e z => by
    have z' : hp.get? b = some o := X _ _ e
    rw [z] at z'
    exact absurd (Nat.lt_of_succ_lt (Heap.lt_size z')) (Nat.lt_irrefl _)
  refine call_own F.excBase_ValueError (fun X => refsVE_contains X bm hbm) (X _ _ hC) (looks_findIn X T.iC) (fun self => bind_fn X self T.tC) (by rw [sizeLine_eq]; exact (by decide : 2 ≤ 16777216)) ?_
  refine err_init (s := ⟨(hp.push (kdv_tup [v1, v2])).push (excO C hp.objs.size), g, dr, tk, os⟩) T bd n1 n2 n4 n5 n3 (X.keeps k) (hlim.keeps k) (G.keeps k) (B.keeps k) hB hget hxK ?_ fun h' tk' dx t1 ⟨k', hx, dn, dne, hns⟩ => ?_
  · show A.depth + 1 < recursionLimit
    exact hroom
  · have old : ∀ b o, hp.get? b = some o → h'.get? b = some o := fun b o e => k' b o (Nat.ne_of_lt (Nat.lt_succ_of_lt (Heap.lt_size e))) (k b o e)
    have z : hp.objs.size + 1 + 1 ≤ dx := by
      first
        | (simpa only [Heap.size_push] using dn)
        | exact dn
        | (have q := dn; rw [Heap.size_push, Heap.size_push] at q; exact q)
    exact ⟨rfl, hq h' tk' (hp.objs.size + 1) dx ⟨old, Nat.le_succ _, ⟨_, _, hx, rfl, rfl, rfl, rfl⟩, Nat.le_trans (Nat.le_trans (Nat.le_succ _) (Nat.le_succ _)) z, dne, hns⟩⟩
end
end ErrX
end PySem
namespace K88
open PySem PySem.Spec PyProof.Rows L2
theorem relO_one {nf : Str} {v : V} {v' : Value} (r : RelV v v') (f : Str) : RelO (List.lookup f [(nf, v)]) (if f = nf then some v' else none) := by
  by_cases hw : f = nf
  · subst hw
    rw [if_pos rfl]
    have q : List.lookup f [(f, v)] = some v := by simp [List.lookup]
    rw [q]
    exact r
  · rw [if_neg hw]
    have qw : (f == nf) = false := by simpa using hw
    have q2 : List.lookup f [(nf, v)] = none := by simp [List.lookup, qw]
    rw [q2]
    trivial
section
variable {X : Cx} {C fI : Addr} {xn nf : Str}
/-- x(text, e): the error's class, its own dict with the field -/
def tMkE (nf : Str) (C : Addr) (ta : TA) : L2.St → Hp → XK → Prop := fun σ H Q => ta σ H fun vs H1 => ∃ u v, vs = [u, v] ∧ ∀ d, H1 d = none → Q (.ref C) (some d) (upd H1 d (.xd [(nf, v)]))
theorem pmk_err {a b : Expr} {ta : TA} {p pos : Pos} {k : Nat} (T : PySem.ErrX.ErrTxt X.prog X.K X.mg xn nf C fI) (bd : PySem.ErrX.Bound nf) (n1 : nf ≠ "self") (n2 : nf ≠ "text") (n4 : nf ≠ "__class__") (n5 : nf ≠ "super") (n3 : (nf == ("__debug__" : Str)) = false) (hr : Room k X.A) (ha : PA X [a, b] ta) (hg : Gl X xn) (hdb : (xn == ("__debug__" : Str)) = false)
    (he : starEach [a, b] X.env = (false, eval a X.env) :: starEach [b] X.env := by rfl) (hpl : (backTo pos (starEach [b] X.env)).any (·.1) = false := by rfl) :
    PMk X (.Call (.Name xn p) [a, b] [] pos) (tMkE nf C ta) := by
  intro pins s σ H Q I h
  refine wpAny_Call_Name_kw (ld_glob I hg T.gC ?_ hdb)
  refine PySem.W.callWith_K (h₀ := X.base) I.ok.mod.kin T.kC (thn (ha.run pos pins s σ H _ I h) fun us s1 hh => ?_) he hpl
  obtain ⟨vs, H1, I1, r1, u, v, ev, q1⟩ := hh
  subst ev
  refine ⟨I1.kIn, ?_⟩
  cases r1 with
  | cons ru rr =>
    rename_i u' us'
    cases rr with
    | cons rv rn =>
      rename_i v' us2
      cases rn
      show wpAny _ _ (call (.ref C) [u', v']) _ _ _
      have hlim := I1.nolimit
      have hG : s1.heap.Ns mainGlobals X.mg := I1.mod.glob.keeps I1.bk
      obtain ⟨mb, hb1, hb2⟩ := I1.mod.blt
      have hB : s1.heap.Ns builtinsNs mb := hb1.keeps I1.bk
      have hs : mb "super" = some (.type "super") := (hb2 "super" (by decide)).trans (by decide +kernel)
      obtain ⟨hp, g, dr, tk, os⟩ := s1
      refine wpAny_call (PySem.ErrX.err_made T bd n1 n2 n4 n5 n3 I1.kIn hlim hG hB hs (by have := hr.dp; omega) fun h' tk' e d M => ?_)
      show MkP X pins σ Q (.ref e) ⟨h', g, dr, tk', os⟩
      obtain ⟨oe, fv, hoe, hc, hd, hdat, h1⟩ := M.obj
      have hns := M.ns
      obtain ⟨G', g1, g2⟩ := restrict h' fun b => decide (b ≠ e)
      have gk : ∀ b, b ≠ e → G'.get? b = h'.get? b := fun b hb => g1 b (decide_eq_true hb)
      have ge : G'.get? e = none := g2 e (by simp)
      have old : ∀ b o, hp.get? b = some o → G'.get? b = some o := fun b o q => (gk b (Nat.ne_of_lt (Nat.lt_of_lt_of_le (Heap.lt_size q) M.new))).trans (M.keep b o q)
      have ob : ObjOk X.prog X.w (upd H1 d (.xd [(nf, v)])) G' d (.xd [(nf, v)]) := ⟨_, hns.at (fun o q => (gk d M.dne).trans q), fun f => relO_one rv f⟩
      have J : Inv X pins σ (upd H1 d (.xd [(nf, v)])) ⟨G', g, dr, tk', os⟩ := I1.laid (t' := tk') old M.dbig ob
      refine ⟨e, oe, fv, ⟨G', g, dr, tk', os⟩, _, .ref C, some d, rfl, J, fun b o q => ?_, ge, hoe, ⟨hc, hd⟩, hdat, h1, ?_, rfl, I1.bare, raises_own T.exC T.tyC, q1 d (I1.hok.fresh M.dbig)⟩
      · by_cases hb : b = e
        · have q' : G'.get? b = some o := q
          rw [hb, ge] at q'; cases q'
        · exact (gk b hb).symm.trans q
      · rw [upd_ne (Ne.symm M.dne)]
        exact I1.hok.fresh M.new
end
end K88
/-! Functions handed on as values, called later, in whatever frame. -/
namespace K88
open PySem PySem.Spec PyProof.Rows L2 Evl LamX
section
variable {fs fs' : List Addr} {H H1 H2 : Hp} {h h1 h2 : Heap}
/-- one after the other, where the frames of the later step are the earlier ones or younger -/
theorem unT (a : Un fs [] H H1 h h1) (b : Un fs' [] H1 H2 h1 h2) (hf : ∀ x ∈ fs', x ∈ fs ∨ h.objs.size ≤ x) : Un fs [] H H2 h h2 := by
  have nf : ∀ c o, h.get? c = some o → c ∉ fs → c ∉ fs' := fun c o e hc hm => by
    rcases hf c hm with z | z
    · exact hc z
    · exact absurd (Nat.lt_of_lt_of_le (Heap.lt_size e) z) (Nat.lt_irrefl _)
  have nn : ∀ c : Addr, c ∉ ([] : List Addr) := fun c => by simp
  refine ⟨fun c o e n hc hx => b.keep c o (a.keep c o e n hc hx) (a.free c o e n hx) (nf c o e hc) hx, fun c o e n hc hx => ?_, fun c o e n hx => ?_, fun c o e hx => ?_, fun c xs e => b.tups c xs (a.tups c xs e), fun c o u e => b.frzs c o u (a.frzs c o u e), fun c ps e => ?_⟩
  · obtain ⟨sl, e1⟩ := a.slot c o e n hc hx
    obtain ⟨sl2, e2⟩ := b.any e1 (a.free c o e n hx) hx
    exact ⟨sl2, e2⟩
  · obtain ⟨o', e1⟩ := a.there c o e hx
    exact b.free c o' e1 (a.free c o e n hx) hx
  · obtain ⟨o', e1⟩ := a.there c o e hx
    exact b.there c o' e1 hx
  · obtain ⟨m1, e1⟩ := a.tbls c ps e
    obtain ⟨m2, e2⟩ := b.tbls c _ e1
    exact ⟨m1 ++ m2, by rw [e2, Array.append_assoc]⟩
end
/-- the function object at f, made at (s, H) over the frames fr0, does tl when it is called with no arguments, at whatever later state -/
structure ActOk (P : Program) (w : World) (K : PySem.W.Frag) (mg : Str → Option Value) (base : Heap) (k : Nat) (fr0 : List Addr) (f c' : Addr) (q : Str) (s : Shared) (H : Hp) (tl : XK → Hp → VK → Prop) : Prop where
  fn : ∃ oc od fd sl, s.heap.get? f = some ⟨oc, od, .func fd, sl⟩
  hn : H f = none
  nf : f ∉ fr0
  run : ∀ (A : Around) (outer : List Env) (s1 : Shared) (H1 : Hp) (Q : VK) (E : XK), Room (k + 1) A → Env0 P w K mg base A outer s1 H1 → Un fr0 [] H H1 s.heap s1.heap → (∀ x ∈ frs outer, x ∈ fr0 ∨ s.heap.objs.size ≤ x) →
    H1 c' = some (CodeO c' q) → tl E H1 Q → codeAny (model P w) A (.call (.ref f) ⟨[], []⟩) (CR (L2.CX P w) outer P w H1 s1 Q E) s1
section
variable {X : Cx} {pins : List (Addr × Obj)} {σ : L2.St} {H : Hp} {s : Shared}
/-- a lambda that was just made -/
theorem act_lambda {scope : Scope} {body : Expr} {params : Arguments} {f c' : Addr} {pm ctv : Value} {k : Nat} {tb : XK → TE} (I : Inv X pins σ H s) (L : LamS X.env.scope scope)
    (hf : s.heap.get? f = some (PySem.W.kla_obj "<lambda>" (X.env.qual ++ "<lambda>") params body scope (cloFrom X.env.cells scope.names []) pm c' ctv)) (hfn : H f = none) (hfr : f ∉ frs X.stack)
    (hbind : bindArgs (PySem.W.kla_fn "<lambda>" (X.env.qual ++ "<lambda>") params body scope (cloFrom X.env.cells scope.names []) pm (.ref c') ctv) ⟨[], []⟩ = pure [])
    (hbody : ∀ (A : Around) (outer : List Env) (s1 : Shared) (H1 : Hp) (E : XK), Room k (A.deeper (lamEnv X scope s1.heap.objs.size f c')) → Un (frs X.stack) [] H H1 s.heap s1.heap → (∀ x ∈ frs outer, x ∈ frs X.stack ∨ s.heap.objs.size ≤ x) → PE (lamCx X A outer s1 H1 E scope f c') body (tb E)) :
    ActOk X.prog X.w X.K X.mg X.base k (frs X.stack) f c' (X.env.qual ++ "<lambda>") s H (fun E H' Q' => tb E σ H' Q') where
  fn := ⟨_, _, _, _, hf⟩
  hn := hfn
  nf := hfr
  run := fun A outer s1 H1 Q E hr e0 un hfo hc ht => by
    have of1 := un.keep f _ hf hfn hfr (by simp)
    obtain ⟨⟨oc, vs, t, hoc, hdc, hvc⟩, _, _⟩ := e0.hok c' _ hc
    have lim : s1.heap.NoLimit := e0.mod.nolimit.keeps fun b o e => (e0.bs b o e).1
    refine PySem.W.kla_callFunE hr.depth of1 rfl L.co L.gen rfl ⟨c', oc, vs, t, rfl, hoc, hdc, hvc⟩ ?_
    rw [hbind]
    refine wpAny_pure (wpAny_newFunctionEnv (fun y hy => (L.own y hy).2) (fun y hy => absurd hy (by simp)) (fun h₁ hns hsb => ⟨lim.fresh _ hsb, ?_⟩) L.kind)
    show codeAny _ _ (.expr body (lamEnv X scope s1.heap.objs.size f c')) _ _
    have kp : ∀ b o, s1.heap.get? b = some o → h₁.get? b = some o := fun b o e => hsb.extBut b o (Nat.ne_of_lt (Heap.lt_size e)) (Heap.get?_push_of_some _ e)
    have J : Inv (lamCx X A outer s1 H1 E scope f c') [] σ H1 { s1 with heap := h₁, toks := s1.toks + ([] : List (Str × Value)).length } := lam_start2 I L e0 hr.hd un hns kp
    refine PySem.W.kla_codeExpr (wpAny_mono ((hbody A outer s1 H1 E (hr.deeper _) un hfo).run [] _ _ H1 Q J ht) (fun v s' hq => ?_) fun e s' hq => hq)
    obtain ⟨w', H', J', rv, q⟩ := hq
    exact ⟨w', H', J'.os, J'.bare, J'.base, J'.hok, rv, q⟩
variable {k i : Nat} {fr0 : List Addr} {f c' : Addr} {q a : Str} {s0 : Shared} {H0 : Hp} {tl : XK → Hp → VK → Prop} {E : XK} {p1 p2 : Pos}
/-- a(), a a name that holds such a function -/
theorem pe_callAct (F : ActOk X.prog X.w X.K X.mg X.base k fr0 f c' q s0 H0 tl) (hU : Un fr0 [] H0 X.H_0 s0.heap X.s_0.heap) (hfr : ∀ x ∈ frs X.stack, x ∈ fr0 ∨ s0.heap.objs.size ≤ x) (hfr2 : ∀ x ∈ X.fs, x ∈ fr0 ∨ s0.heap.objs.size ≤ x) (hex : X.ex = []) (hr : Room (k + 1) X.A) (hx : Passes (L2.CX X.prog X.w) X E)
    (hN : X.N[i]? = some a) (hv : Vis X.env.scope a) (hd : (a == ("__debug__" : Str)) = false := by decide) (hcd : (a == ("__classdict__" : Str)) = false := by decide) :
    PE X (.Call (.Name a p1) [] [] p2) (fun σ H Q => σ[i]? = some (some (.ref f)) ∧ H c' = some (CodeO c' q) ∧ tl E H Q) := by
  refine ⟨fun pins s σ H Q I h => ?_⟩
  obtain ⟨hs, hc, ht⟩ := h
  refine wpAny_Call_Name_kw (thn ((pe_var (pos := p1) (i := i) hN hv hd hcd).run pins s σ H (fun v H1 => v = .ref f ∧ H1 = H) I ⟨.ref f, hs, rfl, rfl⟩) fun u s1 ⟨v, H1, I1, r1, q1⟩ => ?_)
  obtain ⟨ev, eH⟩ := q1
  subst ev
  subst eH
  obtain rfl : u = Value.ref f := r1
  have b1 : Un X.fs [] X.H_0 H1 X.s_0.heap s1.heap := by rw [← hex]; exact I1.base
  have un : Un fr0 [] H0 H1 s0.heap s1.heap := unT hU b1 hfr2
  obtain ⟨oc, od, fd, sl, ef⟩ := F.fn
  refine PySem.W.callWith_F0 ⟨_, _, _, _, un.keep f _ ef F.hn F.nf (by simp)⟩ ?_
  refine wpAny_call (codeAny_mono (F.run X.A X.stack s1 H1 Q E hr I1.env0 un hfr hc ht) fun r s' hq => ?_)
  cases r with
  | error e => exact hx pins σ H1 s1 e s' I1 hq
  | ok fl => cases fl with
    | ret u => exact I1.after hq
    | next => exact False.elim hq
    | brk => exact False.elim hq
    | cont => exact False.elim hq
/-- x(lambda: body), x a def of the text of which it is shown what it does with such a function -/
theorem pe_lamcallG {T : List (Addr × Str)} {TT : Addr → (XK → Hp → VK → Prop) → XK → Hp → VK → Prop} {CXx : CXT} {x : Str} {g c P : Addr} {params : Arguments} {body : Expr} {scope : Scope} {t : XK → TE} {p lpos pos : Pos} (hg : Gl X x) (hm : X.mg x = some (.ref g)) (hk : PySem.W.keepIn X.K (.ref g) = true)
    (hG : ∀ (f c' : Addr) (s : Shared) (H : Hp) (Q : VK) (tl : XK → Hp → VK → Prop), ActOk X.prog X.w X.K X.mg X.base k (frs X.stack) f c' (X.env.qual ++ "<lambda>") s H tl → Env0 X.prog X.w X.K X.mg X.base X.A X.stack s H → H c' = some (CodeO c' (X.env.qual ++ "<lambda>")) → TT c' tl E H Q →
      codeAny (model X.prog X.w) X.A (.call (.ref g) ⟨[.ref f], []⟩) (CR CXx X.stack X.prog X.w H s Q E) s)
    (hx : Passes CXx X E)
    (TB : TabB X.base X.mg c P) (hcode : X.env.code = .ref c) (hmT : (P, X.env.qual ++ "<lambda>") ∈ T) (hu : ∀ p ∈ T, p.1 = P → p.2 = X.env.qual ++ "<lambda>") (L : LamS X.env.scope scope) (hdef : defaultsOf params X.env = ([], []))
    (hbind : ∀ (q : Str) (cl : List (Str × Addr)) (pm cv ctv : Value), bindArgs (PySem.W.kla_fn "<lambda>" q params body scope cl pm cv ctv) ⟨[], []⟩ = pure [])
    (hbody : ∀ (pins : List (Addr × Obj)) (σ : L2.St) (H : Hp) (s : Shared), Inv X pins σ H s → ∀ (A : Around) (outer : List Env) (s1 : Shared) (H1 : Hp) (E : XK) (f c' : Addr), Room k (A.deeper (lamEnv X scope s1.heap.objs.size f c')) → Un (frs X.stack) [] H H1 s.heap s1.heap → (∀ x ∈ frs outer, x ∈ frs X.stack ∨ s.heap.objs.size ≤ x) → PE (lamCx X A outer s1 H1 E scope f c') body (t E))
    (hdb : (x == ("__debug__" : Str)) = false := by decide) :
    PE X (.Call (.Name x p) [.Lambda params body scope lpos] [] pos) (fun σ H Q => Tabs T H ∧ ∀ H1 c', ExtN H H1 → Tabs T H1 → H1 c' = some (CodeO c' (X.env.qual ++ "<lambda>")) → TT c' (fun E H' Q' => t E σ H' Q') E H1 Q) := by
  refine ⟨fun pins s σ H Q I h => ?_⟩
  obtain ⟨hT, h⟩ := h
  refine wpAny_Call_Name_kw (ld_glob I hg hm ?_ hdb)
  refine PySem.W.callWith_K (h₀ := X.base) I.ok.mod.kin hk ?_ (by rfl) (by rfl)
  show wpAny _ _ (spliced ((false, eval (.Lambda params body scope lpos) X.env) :: backTo pos (starEach [] X.env))) _ _ s
  refine Calls.spliced_cons (lam_make2 I TB hcode hmT hu hT hdef (L.has I.ok) fun f c' pm' ctv H1 s' I1 eN T1 hf hfn hfr hco => ?_)
  refine Calls.spliced_nil ⟨I1.kIn, ?_⟩
  have A1 : ActOk X.prog X.w X.K X.mg X.base k (frs X.stack) f c' (X.env.qual ++ "<lambda>") s' H1 (fun E H' Q' => t E σ H' Q') :=
    act_lambda I1 L hf hfn hfr (hbind _ _ _ _ _) fun A outer s1 H2 E hr un hfo => hbody pins σ H1 s' I1 A outer s1 H2 E f c' hr un hfo
  refine wpAny_call (codeAny_mono (hG f c' s' H1 Q _ A1 I1.env0 hco (h H1 c' eN T1 hco)) fun r s2 hq => ?_)
  cases r with
  | error e => exact hx pins σ H1 s' e s2 I1 hq
  | ok fl => cases fl with
    | ret u => exact I1.after hq
    | next => exact False.elim hq
    | brk => exact False.elim hq
    | cont => exact False.elim hq
end
end K88
/-! An own error that an except suite keeps: known behind the try by its class and its dict. -/
namespace K88
open PySem PySem.Spec PyProof.Rows L2 Evl
/-- an error object of the class cls with its own dict d -/
def ErrO (cls : Value) (d : Option Addr) (a : Addr) : HO := .ext fun h => ∃ (oe : Obj) (vs : Array Value), h.get? a = some oe ∧ Zc cls d oe ∧ oe.data = .fields vs
theorem errO_ok {P : Program} {w : World} {H : Hp} {h : Heap} {a : Addr} {cls : Value} {d : Option Addr} {oe : Obj} {vs : Array Value} (e : h.get? a = some oe) (z : Zc cls d oe) (hd : oe.data = .fields vs) : ObjOk P w H h a (ErrO cls d a) :=
  ⟨⟨oe, vs, e, z, hd⟩, ⟨oe, e⟩, fun h1 h2 ⟨o, v, q1, q2, q3⟩ st => ⟨o, v, st _ q1, q2, q3⟩⟩
theorem errO_at {P : Program} {w : World} {H : Hp} {h : Heap} {a b : Addr} {cls : Value} {d : Option Addr} (hok : HOk P w H h) (e : H a = some (ErrO cls d a)) : ∃ (oe : Obj) (vs : Array Value), h.get? a = some oe ∧ Zc cls d oe ∧ oe.data = .fields vs :=
  (hok a _ e).1
section
variable {X : Cx} {pins : List (Addr × Obj)} {σ : L2.St} {H : Hp} {s : Shared}
theorem Inv.track {a : Addr} {oe : Obj} {vs : Array Value} {cls : Value} {d : Option Addr} (I : Inv X ((a, oe) :: pins) σ H s) (h0 : X.s_0.heap.get? a = none) (hp : ∀ p ∈ X.pn ++ pins, p.1 ≠ a) (z : Zc cls d oe) (hd : oe.data = .fields vs) : Inv X pins σ (upd H a (ErrO cls d a)) s := by
  obtain ⟨ea, na, aL, aF, aC⟩ := I.pin (a, oe) (List.mem_append_right _ List.mem_cons_self)
  have ea : s.heap.get? a = some oe := ea
  have na : H a = none := na
  have ne : ∀ b u, H b = some u → b ≠ a := fun b u e q => by rw [q, na] at e; cases e
  refine ⟨I.ok, I.os, I.bare, ⟨I.base.keep, I.base.slot, fun b o e n hx => ?_, I.base.there, fun b xs e => ?_, fun b o u e => ?_, fun b ps e => ?_⟩, I.loc, I.cell, ?_, fun x c e => ?_, fun p hpp => ?_, fun b u e => ?_, I.len⟩
  · have nb : b ≠ a := fun q => by rw [q, h0] at e; cases e
    rw [upd_ne nb]; exact I.base.free b o e n hx
  · have q := I.base.tups b xs e
    rw [upd_ne (ne b _ q)]; exact q
  · have q := I.base.frzs b o u e
    rw [upd_ne (ne b _ q)]; exact q
  · obtain ⟨m, q⟩ := I.base.tbls b ps e
    exact ⟨m, by rw [upd_ne (ne b _ q)]; exact q⟩
  · rw [upd_ne (Ne.symm aL)]; exact I.free
  · have nc : c ≠ a := fun q => by
      obtain ⟨v, o, ho, hv⟩ := I.cell x c e
      rw [q, ea] at ho
      cases ho
      exact aC v hv
    rw [upd_ne nc]; exact I.freeC x c e
  · have hm : p ∈ X.pn ++ (a, oe) :: pins := by
      rcases List.mem_append.mp hpp with h | h
      · exact List.mem_append_left _ h
      · exact List.mem_append_right _ (List.mem_cons_of_mem _ h)
    obtain ⟨q1, q2, q3⟩ := I.pin p hm
    exact ⟨q1, by rw [upd_ne (hp p hpp)]; exact q2, q3⟩
  · by_cases hb : b = a
    · subst hb
      rw [upd_same] at e
      cases e
      exact errO_ok ea z hd
    · rw [upd_ne hb] at e
      exact (I.hok b u e).stay (fun _ _ _ q => q) (fun c q => by rw [upd_ne (ne c _ q)]; exact q) fun c xs q => by rw [upd_ne (ne c _ q)]; exact q
end
/-- what 'except x as n: suite' wishes where the error is kept -/
def wHold (K : PySem.W.Frag) (c : Value) (i : Nat) (ts : Addr → Value → Option Addr → TS) (Wout : WX) (D : Ends) : WX := fun cls d σ H =>
  ∃ b, PySem.W.exmOne K cls c = some b ∧ (b = true → ∀ a, H a = none → ts a cls d { nx := fun σ' H' => H' a = none ∧ D.nx (σ'.set i none) (upd H' a (ErrO cls d a)), rt := fun _ _ => False } (σ.set i (some (.ref a))) H) ∧ (b = false → Wout cls d σ H)
section
variable {X : Cx} {x n : Str} {c : Value} {i : Nat} {body suite : List Stmt} {b₀ : Stmt} {np pos pos' : Pos} {tb : WX → TS} {ts : Addr → Value → Option Addr → TS} {Wout : WX}
theorem ps_try_hold (hs : X.stack = X.env :: X.outer) (hf : X.env.frame = some X.env.locals) (hex : X.ex = []) (hN : X.N.Nodup) (hi : X.N[i]? = some n) (hln : X.env.kindOf n = some .local) (hc : Names X x c) (tk : Takes X Wout)
    (hb : ∀ (W : WX) (pn : List (Addr × Obj)) (xe : Value → Shared → Prop), Takes (X.tr pn xe) W → PassesOwn (model X.prog X.w) X.A X.env xe → PSs (X.tr pn xe) body (tb W))
    (hsu : ∀ (a : Addr) (oe : Obj) (cls : Value) (d : Option Addr) (pn : List (Addr × Obj)), Zc cls d oe → (∃ vs, oe.data = .fields vs) → PSs (X.suite a ((a, oe) :: pn)) (b₀ :: suite) (ts a cls d)) :
    PS X (.Try body [.ExceptHandler (some (.Name x np)) (some n) (b₀ :: suite) pos'] [] [] pos) (fun D σ H => tb (wHold X.K c i ts Wout D) D σ H) := by
  refine ⟨fun pins s σ H D I h => ?_⟩
  have ok := I.ok
  have hfr : X.A.frames = some (X.env :: X.outer) := by rw [ok.frames, hs]
  have hloc : Loc X.env.scope n := .inl hln
  refine wpAny_Try_except ?_
  refine wpAny_mono ((hb (wHold X.K c i ts Wout D) (X.pn ++ pins) (fun e s₁ => wpAny (model X.prog X.w) X.A (noteFrame e X.env) (fun _ s₂ => wpAny (model X.prog X.w) X.A (setFlight e none) (fun _ s₃ =>
    wpAny (model X.prog X.w) X.A (handleBy e X.env [.ExceptHandler (some (.Name x np)) (some n) (b₀ :: suite) pos']) (SP X pins D) X.xe s₃) X.xe s₂) X.xe s₁) (fun u s' xx => ?_) PassesOwn.looking).run [] s σ H D (I.toTry _) h) (fun f s1 hsp => ?_) (fun e s1 he => he)
  · obtain ⟨a, B, sI, pins', σ', H', cls, d, rfl, J', nb, up, sky, na, os, ag, b, hb1, hyes, hno⟩ := xx
    have J : Inv X pins σ' H' sI := J'.ofTry ok
    have sky' : Sky B (X.env :: X.outer) a (Zc cls d) X.env.locals s'.heap := by rw [← hs]; exact sky
    show wpAny (model X.prog X.w) X.A (noteFrame (.ref a) X.env) _ _ _
    refine Sky.land Zc.steady hfr hf sky' fun h3 fl3 up3 => ?_
    have J3 : Inv X pins σ' H' { s' with heap := h3 } := J.landed nb fl3.1 (up.trans up3) os ag
    obtain ⟨oe3, vs3, he3, hz3, hd3⟩ := fl3.there
    have nfr : a ∉ frs (X.env :: X.outer) := fun hm => by
      obtain ⟨_, o', e', hnf⟩ := fl3.2.2.1.mem hm
      rw [he3] at e'; cases e'
      exact hnf _ hd3
    have nL : a ≠ X.env.locals := fun z => nfr (List.mem_filterMap.mpr ⟨X.env, List.mem_cons_self, by rw [hf, z]⟩)
    have nF : a ∉ X.fs := fun hm => by
      obtain ⟨e, he, q⟩ := List.mem_filterMap.mp hm
      exact nfr (List.mem_filterMap.mpr ⟨e, List.mem_cons_of_mem _ he, q⟩)
    have aI : sI.heap.get? a = none := by
      cases q : sI.heap.get? a with
      | none => rfl
      | some o =>
        have z := nb a o q (by rw [hs]; exact nfr)
        rw [fl3.2.1] at z
        cases z
    have a0 : X.s_0.heap.get? a = none := by
      cases q : X.s_0.heap.get? a with
      | none => rfl
      | some o =>
        obtain ⟨o', z⟩ := J.base.there a o q (by rw [hex]; simp)
        rw [aI] at z
        cases z
    have hpa : ∀ p ∈ X.pn ++ pins, p.1 ≠ a := fun p hp z => by
      have q := (J'.pin p (List.mem_append_left _ hp)).1
      rw [z, aI] at q
      cases q
    have S3 := J3.suite he3 hd3 na nL nF
    refine wpAny_handleBy_cons (codeAny_handlers_test ?_) (by intro q; cases q)
    have LT : PySem.W.Looks (model X.prog X.w) h3 (typeOf (.ref a)) cls := fun A Q E s k q => wpAny_typeOf_ref (k _ _ he3) (by rw [hz3.1]; exact q)
    have LM := PySem.W.exm_one (M := model X.prog X.w) (J3.kIn) LT hb1
    have test : ∀ {Q : Value → Shared → Prop} {E : Value → Shared → Prop}, Q c { s' with heap := h3 } → wpAny (model X.prog X.w) (X.A.mark (some (.ref a))) (eval (.Name x np) X.env) Q E { s' with heap := h3 } := fun {Q E} q => by
      obtain ⟨hg, hdbg, hm | ⟨hm, hv, hnn⟩⟩ := hc
      · exact ld_glob (X := X.suite a ((a, oe3) :: (X.pn ++ pins))) S3 hg hm q hdbg
      · exact ld_blt (X := X.suite a ((a, oe3) :: (X.pn ++ pins))) S3 hg hm hv q hnn hdbg
    refine test (LM.here ?_)
    cases b with
    | true =>
      refine codeAny_handlers_suite_as ?_
      refine HandSPX.lands_againZ fl3 fun h4 fl4 up4 => ?_
      have J4 : Inv X pins σ' H' { s' with heap := h4 } := J.landed nb fl4.1 ((up.trans up3).trans up4) os ag
      obtain ⟨oe4, vs4, he4, hz4, hd4⟩ := fl4.there
      have S4 := J4.suite he4 hd4 na nL nF
      refine store_ok (X := X.suite a ((a, oe4) :: (X.pn ++ pins))) (v := .ref a) S4 hN hi hloc rfl (fun s5 S5 => ?_) (.inr hln)
      refine wpAny_mono ((hsu a oe4 cls d (X.pn ++ pins) hz4 ⟨_, hd4⟩).run [] s5 _ H' _ S5 (hyes rfl a na)) (fun f s6 hsp => ?_) (fun _ _ z => False.elim z)
      cases f with
      | next =>
        obtain ⟨σ6, H6, S6, n6, q6⟩ := hsp
        have J6 := S6.unsuite ok
        have pa := S6.pin (a, oe4) (List.mem_append_left _ List.mem_cons_self)
        have J7 : Inv X ((a, oe4) :: pins) σ6 H6 s6 := J6.pins_of fun p hp => by
          rcases List.mem_cons.mp hp with e | h
          · rw [e]; exact pa
          · exact J6.pin p (List.mem_append_right _ h)
        exact gone_ok J7 hN hi hln fun s8 J8 => ⟨_, _, Inv.track J8 a0 hpa hz4 hd4, q6⟩
      | brk =>
        obtain ⟨σ6, H6, S6, q6⟩ := hsp
        exact False.elim q6
      | cont =>
        obtain ⟨σ6, H6, S6, q6⟩ := hsp
        exact False.elim q6
      | ret u =>
        obtain ⟨v6, σ6, H6, S6, r6, q6⟩ := hsp
        exact False.elim q6
    | false =>
      show wpAny _ X.A (handleBy (.ref a) X.env []) _ _ _
      refine wpAny_handleBy_nil ?_
      obtain ⟨k1, k2, k3, oe, vs, T, oT, ts', he, hz, hd, h1, hr⟩ := id fl3
      unfold PySem.passOn
      refine wpAny_bind (wpAny_field he hd h1 ?_)
      rw [if_neg (show ¬ ((Value.ref T == Value.none) = true) from by simp)]
      have fin : wpAny (model X.prog X.w) X.A (setFlight (.ref a) X.env.frame) (fun _ s4 => wpAny (model X.prog X.w) X.A (throw (.ref a) : Sem Flow) (SP X pins D) X.xe s4) X.xe { s' with heap := h3 } := by
        rw [hf]
        refine HandSPX.setFlight_upZ fl3 fun h4 hh4 up4 => wpAny_throw (tk _ _ ?_)
        exact ⟨a, B, sI, pins, σ', H', cls, d, rfl, J, nb, (up.trans up3).trans up4, .inr (.inr (by rw [hs]; exact hh4)), na, os, ag, hno rfl⟩
      first
        | exact wpAny_bind (wpAny_pure (wpAny_bind fin))
        | exact wpAny_bind fin
  · cases f with
    | next =>
      obtain ⟨σ', H', J', q⟩ := hsp
      exact wpAny_execs_nil ⟨σ', H', J'.ofTry ok, q⟩
    | brk =>
      obtain ⟨σ', H', J', q⟩ := hsp
      exact ⟨σ', H', J'.ofTry ok, q⟩
    | cont =>
      obtain ⟨σ', H', J', q⟩ := hsp
      exact ⟨σ', H', J'.ofTry ok, q⟩
    | ret u =>
      obtain ⟨v, σ', H', J', r, q⟩ := hsp
      exact ⟨v, σ', H', J'.ofTry ok, r, q⟩
end
end K88
/-! A kept error: isinstance of it, its field. -/
namespace K88
open PySem PySem.Spec PyProof.Rows L2 Evl
/-- isinstance(e, c), e a kept error of the class D -/
def rIsErr (K : PySem.W.Frag) (D : Addr) : List V → Hp → VK → Prop := fun xs H Q => ∃ (a dd : Addr) (fs : List (Str × V)) (c : V) (cv : Value) (b : Bool), xs = [.ref a, c] ∧ H a = some (ErrO (.ref D) (some dd) a) ∧ H dd = some (.xd fs) ∧ (∀ u, RelV c u → u = cv) ∧ PySem.W.kitOne K (.ref D) cv = some b ∧ Q (.bl b) H
section
variable {X : Cx}
theorem errO_inst {P : Program} {w : World} {H : Hp} {h : Heap} {a dd D : Addr} {fs : List (Str × V)} (hok : HOk P w H h) (ea : H a = some (ErrO (.ref D) (some dd) a)) (ed : H dd = some (.xd fs)) :
    ∃ (oe od : Obj) (mA : Str → Option Value), PySem.W.InstAt h a oe D (some od) ∧ (∀ f : Str, PySem.W.lookIn f od = some (mA f)) ∧ ∀ f, RelO (List.lookup f fs) (mA f) := by
  obtain ⟨oe, vs, hget, hz, hd⟩ := errO_at (b := a) hok ea
  have hx : ObjOk P w H h dd (.xd fs) := hok dd _ ed
  obtain ⟨mA, hns, hr⟩ := hx
  obtain ⟨od, ho, hl⟩ := lookIn_ns hns
  exact ⟨oe, od, mA, ⟨hget, hz.1, by unfold PySem.W.notCls; rw [hd] <;> rfl, by rw [hz.2]; exact ho⟩, hl, hr⟩
theorem call_isErr {D : Addr} (C : ExcC X.K D) (hcl : (PySem.W.clsIn X.K D).isSome = true) : CallR X (.builtin "isinstance") (rIsErr X.K D) := by
  intro pins s σ H xs us Q I r h
  obtain ⟨a, dd, fs, c, cv, b, rfl, ea, ed, hcv, e, q⟩ := h
  cases r with
  | cons rx rr =>
    cases rr with
    | cons rt rr =>
      cases rr
      cases rx
      have ec := hcv _ rt
      subst ec
      obtain ⟨oe, od, mA, J, _, _⟩ := errO_inst I.hok ea ed
      exact PySem.W.kia_one (PySem.W.kitx_exc hcl C.hg C.hk C.hs C.ha C.hn C.ht C.hm) I.kIn J e (fun z => nomatch z) fun tk => ⟨.bl b, H, I.kept (t' := tk) fun _ _ z => z, rfl, q⟩
/-- e.f, e a kept error -/
def tErrF (C : Addr) (f : Str) (te : TE) : TE := fun σ H Q => te σ H fun x H1 => ∃ (a dd : Addr) (fs : List (Str × V)) (v : V), x = .ref a ∧ H1 a = some (ErrO (.ref C) (some dd) a) ∧ H1 dd = some (.xd fs) ∧ fs.lookup f = some v ∧ Q v H1
theorem pe_errF {C : Addr} {f : Str} {e : Expr} {te : TE} {pos : Pos} (ga : PySem.W.findIn X.K (.ref C) "__getattribute__" = some (some (.builtin "BaseException.__getattribute__"))) (gg : PySem.W.findIn X.K (.ref C) "__getattr__" = some none) (exC : PySem.W.subIn X.K (.ref C) (.type "BaseException") = some true)
    (hdC : PySem.W.hasDictIn X.K C = true) (noN : PySem.W.findIn X.K (.ref C) f = some none) (he : PE X e te) (hc : (f == ("__class__" : Str)) = false := by rfl) (hb : attributeBase e f X.env (eval e X.env) = eval e X.env := by rfl) :
    PE X (.Attribute e f pos) (tErrF C f te) := by
  refine ⟨fun pins s σ H Q I h => ?_⟩
  refine attr_of hb (thn (he.run pins s σ H _ I h) fun u s1 hh => ?_)
  obtain ⟨x, H1, I1, rx, a, dd, fs, v, ex, ea, ed, hv, q⟩ := hh
  subst ex
  obtain rfl : u = Value.ref a := rx
  obtain ⟨oe, od, mA, J, hl, hr⟩ := errO_inst I1.hok ea ed
  obtain ⟨u, hu, ru⟩ := RelO.some_of (v := v) (o := mA f) (by rw [← hv]; exact hr f)
  exact HandSPX.exc_get I1.kIn J ga gg exC (PySem.W.findObj_own hdC noN (by first | exact hc | rfl) (by rw [hl, hu])) (handed_of ru) ⟨v, H1, I1.tok _, ru, q⟩
end
end K88
/-! The head's facts: those of He, error classes with their __init__, the statics. -/
namespace K88
open PySem PySem.Spec PyProof.Rows L2 He
abbrev FnI : Type := Option (Str × Str × Arguments × FuncBody × Scope × Addr × Addr)
/-- a function, but for its closure -/
def fnI (K : PySem.W.Frag) (p : Str × Option Str) : FnI := match K.lookup (fAd K p) with
  | some ⟨_, _, .func fd, _⟩ => some (fd.name, fd.qualname, fd.params, fd.body, fd.scope, fd.globals, fd.builtins)
  | _ => none
/-- an error class x: where its __init__ stands in the text -/
structure IniD where
  at_ : Str × Option Str
  qual : Str
  params : Arguments
  body : List Stmt
  scope : Scope
def IniD.val (d : IniD) : FnI := some ("__init__", d.qual, d.params, .stmts d.body, d.scope, mainGlobals, builtinsNs)
def frY (g : Addr → Option Obj) (n : Nat) : PySem.W.Frag := frT g (cStatics :: asD g n)
structure SaysY (fa : List Fa) (fn : List DefD) (ts : List Tab) (tf : List Defn) (ex : PySem.W.Frag → Bool) (is : List IniD) (w : World) (h : Heap) (K : PySem.W.Frag) : Prop where
  x : SaysX fa fn ts tf ex w h K
  i : is.map (fun d => fnI K d.at_) = is.map IniD.val
abbrev AlY : Type := AlX × List FnI
def obsY (n : Nat) (fa : List Fa) (fn : List DefD) (ts : List Tab) (tf : List Defn) (ex : PySem.W.Frag → Bool) (is : List IniD) (g : Addr → Option Obj) : AlY := ((obsT fa fn ts (frY g n), ex (frY g n) && tabsB g tf (frY g n)), is.map fun d => fnI (frY g n) d.at_)
def valY (fn : List DefD) (ts : List Tab) (is : List IniD) (w : World) : AlY := (valX fn ts w, is.map IniD.val)
theorem saysY_of {n : Nat} {fa : List Fa} {fn : List DefD} {ts : List Tab} {tf : List Defn} {ex : PySem.W.Frag → Bool} {is : List IniD} {w : World} {h : Heap} (e : obsY n fa fn ts tf ex is h.get? = valY fn ts is w) : SaysY fa fn ts tf ex is w h (frY h.get? n) := by
  have e1 : obsT fa fn ts (frY h.get? n) = valT fn ts w := congrArg (fun z : AlY => z.1.1) e
  have e2 : (ex (frY h.get? n) && tabsB h.get? tf (frY h.get? n)) = true := congrArg (fun z : AlY => z.1.2) e
  obtain ⟨h1, h2⟩ := ba e2
  have key : ∀ p ∈ tf, PySem.W.codeHdIn (frY h.get? n) (cT (frY h.get? n) p).1 (cT (frY h.get? n) p).2 = true ∧ ∃ o, h.get? (cT (frY h.get? n) p).2 = some o ∧ emptyTab o = true := fun p hp => by
    obtain ⟨h3, h4⟩ := ba (List.all_eq_true.mp h2 p hp)
    refine ⟨h3, ?_⟩
    cases q : h.get? (cT (frY h.get? n) p).2 with
    | none =>
      rw [q] at h4
      cases h4
    | some o =>
      rw [q] at h4
      exact ⟨o, rfl, h4⟩
  exact ⟨⟨e1, h1, fun p hp => (key p hp).1, fun p hp => by
    obtain ⟨_, o, q, z⟩ := key p hp
    exact frT_none q z, fun p hp => by
    obtain ⟨_, o, q, z⟩ := key p hp
    rw [q, emptyTab_eq z]⟩, congrArg (fun z : AlY => z.2) e⟩
def hookY (n : Nat) (fa : List Fa) (fn : List DefD) (ts : List Tab) (tf : List Defn) (ex : PySem.W.Frag → Bool) (is : List IniD) : PySem.W.Hook where
  α := AlY
  obs := fun s => obsY n fa fn ts tf ex is s.heap.get?
  val := fun w => valY fn ts is w
  says := fun w h => ∃ K : PySem.W.Frag, K.In h ∧ SaysY fa fn ts tf ex is w h K
  of := fun _ _ e => ⟨_, frT_in, saysY_of e⟩
  keeps := fun _ _ _ ⟨K, hK, c⟩ k => ⟨K, PySem.W.Frag.In.keeps hK k, ⟨⟨c.x.t, c.x.more, c.x.hd, c.x.out, fun p hp => k _ _ (c.x.empty p hp)⟩, c.i⟩⟩
theorem obsY_eq {n : Nat} {fa : List Fa} {fn : List DefD} {ts : List Tab} {tf : List Defn} {ex : PySem.W.Frag → Bool} {is : List IniD} {g : Addr → Option Obj} {s : Shared} (h : ∀ a, g a = s.heap.get? a) : obsY n fa fn ts tf ex is g = (hookY n fa fn ts tf ex is).obs s := by
  have e : g = s.heap.get? := funext h
  rw [e] <;> rfl
/-! ### an error class with __init__ -/
def eqB (a b : Option Bool) : Bool := decide (a = b)
/-- what is asked of the class object -/
def clsB (K : PySem.W.Frag) (C : Addr) : Bool := match K.lookup C with
  | some ⟨.type c, _, .cls cd, sl⟩ => (match cd.mro, sl.toList with
    | .ref C' :: bm, [_, _, _, _, some (.builtin n), _] => decide (c = "type") && (decide (C' = C) && (decide (n = "ValueError.__new__") && (!cd.hasDel && (cd.hasDict && PySem.HandSPX.refsVE bm))))
    | _, _ => false)
  | _ => false
theorem clsB_ok {K : PySem.W.Frag} {C : Addr} (h : clsB K C = true) : ∃ nm q N bs bm sn sub ab col dd k0 k1 k2 k3 k5, K.lookup C = some (excClassObj nm q C N bs bm true sn sub ab col dd k0 k1 k2 k3 k5 "ValueError.__new__") ∧ PySem.HandSPX.refsVE bm = true := by
  unfold clsB at h
  split at h
  · rename_i c dd cd sl ho
    split at h
    · rename_i C' bm k0 k1 k2 k3 n k5 hm hs
      obtain ⟨g1, h⟩ := ba h
      obtain ⟨g2, h⟩ := ba h
      obtain ⟨g3, h⟩ := ba h
      obtain ⟨g4, h⟩ := ba h
      obtain ⟨g5, g6⟩ := ba h
      have g1 := of_decide_eq_true g1
      have g2 := of_decide_eq_true g2
      have g3 := of_decide_eq_true g3
      subst g1 g2 g3
      obtain ⟨nm, bs, mro, ns, qn, hd, sn, sub, ab, col, del⟩ := cd
      dsimp only at hm g4 g5
      have g4 : del = false := by cases del with | false => rfl | true => cases g4
      subst hm g4 g5
      have hsl : sl = #[k0, k1, k2, k3, some (.builtin "ValueError.__new__"), k5] := by
        obtain ⟨l⟩ := sl
        simp only at hs
        rw [hs]
      rw [hsl] at ho
      exact ⟨_, _, _, _, _, _, _, _, _, _, _, _, _, _, _, ho, g6⟩
    · cases h
  · cases h
/-- what is asked of __init__'s function object beside fnI -/
def iniB (K : PySem.W.Frag) (file : Str) (C fI : Addr) (qual : Str) : Bool := match K.lookup fI with
  | some ⟨_, _, .func fd, _⟩ => PySem.W.codeIn K fd.code qual && ((match fd.closure with
      | [(x, cc)] => decide (x = "__class__") && (match K.lookup cc with
        | some ⟨_, _, .cell (some (.ref c)), _⟩ => decide (c = C)
        | _ => false)
      | _ => false) && ((match fd.defaults with
        | .ref T => (match K.lookup T with
          | some ⟨_, _, .seq its _, _⟩ => decide (its.size = 1)
          | _ => false)
        | _ => false) && (match fd.code with
        | .ref cda => (match K.lookup cda with
          | some ⟨_, _, .fields vs, _⟩ => (match (vs[2]? : Option Value) with
            | some (.str f _) => (file : Str) == f
            | _ => false)
          | _ => false)
        | _ => false)))
  | _ => false
theorem iniB_ok {K : PySem.W.Frag} {file : Str} {C : Addr} {p : Str × Option Str} {d : IniD} (e : fnI K p = d.val) (h : iniB K file C (fAd K p) d.qual = true) :
    ∃ (oc : Value) (od : Option Addr) (kV doc pm : Value) (an : Option Addr) (ct : Value) (osl : Array (Option Value)) (T cda cc : Addr) (oT : Obj) (dv : Value) (n : Nat)
      (ccl cl : Value) (cdd cld : Option Addr) (ccs csl : Array (Option Value)) (vs : Array Value) (fl : Str) (tf : Tok),
    K.lookup (fAd K p) = some ⟨oc, od, .func (PySem.W.ksFn "__init__" d.qual d.params d.body d.scope (.ref T) kV doc pm an (.ref cda) ct cc), osl⟩ ∧ PySem.W.codeIn K (.ref cda) d.qual = true ∧
    K.lookup T = some oT ∧ oT.data = .seq #[dv] n ∧ K.lookup cda = some ⟨ccl, cdd, .fields vs, ccs⟩ ∧ vs[2]? = some (.str fl tf) ∧ (file == fl) = true ∧ K.lookup cc = some ⟨cl, cld, .cell (some (.ref C)), csl⟩ := by
  unfold fnI at e
  unfold iniB at h
  cases q : K.lookup (fAd K p) with
  | none =>
    rw [q] at h
    cases h
  | some o =>
    obtain ⟨oc, od, dt, osl⟩ := o
    rw [q] at h e
    cases dt with
    | func fd =>
      obtain ⟨n1, n2, n3, n4, n5, n6, n7, n8, n9, n10, n11, n12, n13, n14, n15⟩ := fd
      have e2 : (some (n1, n2, n3, n4, n5, n6, n15) : FnI) = some (("__init__" : Str), d.qual, d.params, FuncBody.stmts d.body, d.scope, mainGlobals, builtinsNs) := e
      simp only [Option.some.injEq, Prod.mk.injEq] at e2
      obtain ⟨h1, h2, h3, h4, h5, h6, h8⟩ := e2
      subst h1 h2 h3 h4 h5 h6 h8
      obtain ⟨k1, j1⟩ := ba h
      obtain ⟨k2, j2⟩ := ba j1
      obtain ⟨k3, k4⟩ := ba j2
      dsimp only at k1 k2 k3 k4
      clear h e j1 j2
      split at k2
      · rename_i x cc
        obtain ⟨j1, j2⟩ := ba k2
        have j1 := of_decide_eq_true j1
        subst j1
        split at j2
        · rename_i cl cld c csl hc
          have j2 := of_decide_eq_true j2
          subst j2
          split at k3
          · rename_i T
            split at k3
            · rename_i cT dT its nT slT hT
              have k3 := of_decide_eq_true k3
              have ⟨dv, hdv⟩ : ∃ dv, its = #[dv] := by
                obtain ⟨l⟩ := its
                match l, k3 with
                | [x], _ => exact ⟨x, rfl⟩
              subst hdv
              split at k4
              · rename_i cda
                split at k4
                · rename_i ccl cdd vs ccs hvs
                  split at k4
                  · rename_i f tf hf
                    exact ⟨_, _, _, _, _, _, _, _, T, cda, cc, _, dv, nT, ccl, cl, cdd, cld, ccs, csl, vs, f, tf, rfl, k1, hT, rfl, hvs, hf, k4, hc⟩
                  · cases k4
                · cases k4
              · cases k4
            · cases k3
          · cases k3
        · cases j2
      · cases k2
    | _ => cases h
end K88
/-! An error class's facts, asked as one Bool. -/
namespace K88
open PySem PySem.Spec PyProof.Rows L2 He
def errB (K : PySem.W.Frag) (C : Addr) (nf : Str) : Bool :=
  clsB K C && (eqO (PySem.W.findIn K (.ref C) "__setattr__") (some (some (.builtin "object.__setattr__"))) && (eqO (PySem.W.findIn K (.ref C) "__getattribute__") (some (some (.builtin "BaseException.__getattribute__"))) &&
  (eqO (PySem.W.findIn K (.ref C) "__getattr__") (some none) && (eqO (PySem.W.findIn K (.ref C) nf) (some none) && (eqO (PySem.W.findIn K (.ref C) "__init__") (some (some (.ref (ma K C "__init__")))) &&
  (decide (PySem.W.typeIn K (.ref (ma K C "__init__")) = some (.type "function")) && (PySem.W.keepIn K (.ref C) && (eqB (PySem.W.subIn K (.ref C) (.type "BaseException")) (some true) && (eqB (PySem.W.subIn K (.ref C) (.type "ValueError")) (some true) &&
  (decide (PySem.W.typeIn K (.ref C) = some (.type "type")) && (PySem.W.hasDictIn K C && (eqB (PySem.W.mroIn K C (.ref C)) (some true) && (eqO (PySem.W.ks_superIn K C C "__init__") (some (some (.builtin "ValueError.__init__"))) &&
  (eqO (PySem.W.nsIn K cStatics "thirdparty.any") (some none) && (eqO (PySem.W.findIn K (.ref C) "__class__") (some (some (.builtin "object.__class__"))) && (eqO (PySem.W.specialIn K (.builtin "object.__class__") "__get__") (some (some (.builtin "getset_descriptor.__get__"))) &&
  (eqB (PySem.W.takesIn K (.builtin "object.__class__")) (some true) && (eqB (PySem.W.mroIn K C (.type "object")) (some true) && (PySem.W.clsIn K C).isSome))))))))))))))))))
structure ErrAll (P : Program) (K : PySem.W.Frag) (mg : Str → Option Value) (x nf : Str) (C fI : Addr) : Prop where
  t : PySem.ErrX.ErrTxt P K mg x nf C fI
  c : ExcC K C
  s : (PySem.W.clsIn K C).isSome = true
theorem errAll_of {P : Program} {K : PySem.W.Frag} {h : Heap} {mg : Str → Option Value} {x nf : Str} {p1 p2 p3 q0 q1 q3 r1 r2 r3 r4 : Pos} {ed : Expr} {qual : Str} (X : K.In h) (G : h.Ns mainGlobals mg) (hg : (Fa.glo x).ok K = true) (hs : (Fa.free "super").ok K = true) (top : (P.main.scope.names.lookup ("super" : Str)).isSome = false)
    (hb : errB K (ga K x) nf = true) (e : fnI K (x, some "__init__") = (IniD.mk (x, some "__init__") qual (PySem.ErrX.eA nf p1 p2 p3 ed) (PySem.ErrX.eB nf q0 q1 q3 r1 r2 r3 r4) (PySem.ErrX.eS nf)).val)
    (hi : iniB K P.main.file (ga K x) (fAd K (x, some "__init__")) qual = true) : ErrAll P K mg x nf (ga K x) (ma K (ga K x) "__init__") := by
  unfold errB at hb
  obtain ⟨g1, hb⟩ := ba hb
  obtain ⟨g2, hb⟩ := ba hb
  obtain ⟨g3, hb⟩ := ba hb
  obtain ⟨g4, hb⟩ := ba hb
  obtain ⟨g5, hb⟩ := ba hb
  obtain ⟨g6, hb⟩ := ba hb
  obtain ⟨g7, hb⟩ := ba hb
  obtain ⟨g8, hb⟩ := ba hb
  obtain ⟨g9, hb⟩ := ba hb
  obtain ⟨g10, hb⟩ := ba hb
  obtain ⟨g11, hb⟩ := ba hb
  obtain ⟨g12, hb⟩ := ba hb
  obtain ⟨g13, hb⟩ := ba hb
  obtain ⟨g14, hb⟩ := ba hb
  obtain ⟨g15, hb⟩ := ba hb
  obtain ⟨g16, hb⟩ := ba hb
  obtain ⟨g17, hb⟩ := ba hb
  obtain ⟨g18, hb⟩ := ba hb
  obtain ⟨g19, g20⟩ := ba hb
  obtain ⟨oc, od, kV, doc, pm, an, ct, osl, T, cda, cc, oT, dv, n, ccl, cl, cdd, cld, ccs, csl, vs, fl, tf, i1, i2, i3, i4, i5, i6, i7, i8⟩ := iniB_ok (d := IniD.mk (x, some "__init__") qual (PySem.ErrX.eA nf p1 p2 p3 ed) (PySem.ErrX.eB nf q0 q1 q3 r1 r2 r3 r4) (PySem.ErrX.eS nf)) e hi
  exact ⟨{ gC := glo_ok X G hg, cls := clsB_ok g1, sa := eqO_ok g2, ga := eqO_ok g3, gg := eqO_ok g4, noN := eqO_ok g5, iC := eqO_ok g6, tC := of_decide_eq_true g7, kC := g8, exC := of_decide_eq_true g9, veC := of_decide_eq_true g10, tyC := of_decide_eq_true g11, hdC := g12, mrC := of_decide_eq_true g13,
           sup := eqO_ok g14, opq := eqO_ok g15, nsup := free_ok X G hs, top := top,
           fn := ⟨oc, od, kV, doc, pm, an, ct, osl, p1, p2, p3, q0, q1, q3, r1, r2, r3, r4, ed, T, cda, cc, oT, dv, n, ccl, cl, cdd, cld, ccs, csl, vs, fl, tf, qual, i1, i2, i3, i4, i5, i6, i7, i8⟩ },
    { hg := eqO_ok g3, hk := eqO_ok g4, hs := of_decide_eq_true g9, hd := g12, ha := eqO_ok g16, hn := eqO_ok g17, ht := of_decide_eq_true g18, hm := of_decide_eq_true g19 }, g20⟩
end K88
/-! The head of k88: which facts, the run. -/
namespace K88
open PySem PySem.Spec PyProof.Rows L2 He
def dfn (x : Str) (i : Nat) : DefD := ⟨(x, none), x, x, defArgs (top i), defBody (top i), defScope (top i), [], []⟩
def dfns : List DefD := [dfn "is_word" 24, dfn "is_figure" 25, dfn "is_value" 26, dfn "value_text" 27, dfn "pieces_of" 28, dfn "plain_of" 29, dfn "value_of" 30, dfn "read_value" 31, dfn "_law_begun" 33, dfn "_law_mixed" 34, dfn "_law_draw" 35, dfn "_law_pick" 36, dfn "_law_plain" 37, dfn "_law_is" 38, dfn "_law_value_text" 39, dfn "_law_caught" 40, dfn "_law_word" 41, dfn "_law_some_value" 42, dfn "_law_nested" 43, dfn "law" 44]
def frees : List Str := ["isinstance", "str", "all", "int", "bool", "abs", "range", "tuple", "list", "len", "reversed", "enumerate", "dict", "repr", "min", "super"]
def clss : List Str := ["MakeError", "NoText", "Used", "TooMany"]
def defN : List Str := ["is_word", "is_figure", "is_value", "value_text", "pieces_of", "plain_of", "value_of", "read_value", "_law_begun", "_law_mixed", "_law_draw", "_law_pick", "_law_plain", "_law_is", "_law_value_text", "_law_caught", "_law_word", "_law_some_value", "_law_nested", "law"]
def facts : List Fa := [.int "MOST_DEEP" 60, .int "MOST_FIGURES" 12, .int "MOST_NUMBER" 1000000000000, .str "SMALL" "abcdefghijklmnopqrstuvwxyz", .str "FIGURES" "0123456789"] ++ (frees.map Fa.free ++ (clss.map Fa.glo ++ defN.map Fa.glo))
def tdef : List Defn := [("_law_word", none), ("law", none)]
def iNoText : IniD := ⟨("NoText", some "__init__"), "NoText.__init__", PySem.ErrX.eA "line" ⟨32, 17, 32, 21⟩ ⟨32, 23, 32, 27⟩ ⟨32, 29, 32, 33⟩ (.Constant .none 0 ⟨32, 34, 32, 38⟩), PySem.ErrX.eB "line" ⟨33, 8, 33, 13⟩ ⟨33, 8, 33, 15⟩ ⟨33, 25, 33, 29⟩ ⟨34, 8, 34, 12⟩ ⟨34, 8, 34, 17⟩ ⟨34, 20, 34, 24⟩ ⟨34, 8, 34, 24⟩, PySem.ErrX.eS "line"⟩
abbrev R : PySem.W.OpenRow := PySem.W.OpenLaw.row PySem.Challenge.rw_makebook_k88_values_written
def more (K : PySem.W.Frag) : Bool := errB K (ga K "NoText") "line" && (iniB K R.prog.main.file (ga K "NoText") (fAd K ("NoText", some "__init__")) "NoText.__init__" &&
  (decide (PySem.W.kitOne K (.ref (ga K "NoText")) (.ref (ga K "Used")) = some false) && (decide (PySem.W.kitOne K (.ref (ga K "NoText")) (.ref (ga K "TooMany")) = some false) && (decide (PySem.W.kitOne K (.ref (ga K "NoText")) (.ref (ga K "NoText")) = some true) && (decide (PySem.W.exmOne K (.ref (ga K "NoText")) (.ref (ga K "MakeError")) = some true) && decide ((cT K ("_law_word", none)).2 ≠ (cT K ("law", none)).2))))))
abbrev hk : PySem.W.Hook := hookY 5 facts dfns [] tdef more [iNoText]
def ob (s : PySem.W.SharedT) : AlY := obsY 5 facts dfns [] tdef more [iNoText] (HandSHeadRun.getT s)
theorem ob_eq (s : PySem.W.SharedT) : ob s = hk.obs s.abs := obsY_eq (HandSHeadRun.getT_eq s)
def loose : List Str := (["MakeError", "NoName", "NoNumber", "NoSize", "NoType", "NoTable", "NoKind", "NoBook", "NoState", "NoExpression", "NoLaw", "NoDeed", "NoPast", "Twice", "NoText", "Used", "TooMany", "MOST_DEEP", "MOST_FIGURES", "MOST_NUMBER", "SMALL", "FIGURES", "is_word", "is_figure", "is_value", "value_text", "pieces_of", "plain_of", "value_of", "read_value"] : List Str)
  ++ (["_law_begun", "_law_mixed", "_law_draw", "_law_pick", "_law_plain", "_law_is", "_law_value_text", "_law_caught", "_law_word", "_law_some_value", "_law_nested"] : List Str)
theorem run (w : World) : HandSHeadRun.RunEq R (PySem.W.view R.prog [44]) hk ob 6000 loose w := by
  intro os
  kernel_rfl
end K88
/-! Data, the module's names, is_word, is_figure. -/
namespace K88
open PySem PySem.Spec PyProof.Rows L2 Evl
abbrev FnP (K : PySem.W.Frag) (x : Str) (i : Nat) (f : Addr) (fd : FuncData) : Prop := FunD K x x (defArgs (top i)) (defBody (top i)) (defScope (top i)) [] [] f fd
def smallS : Str := "abcdefghijklmnopqrstuvwxyz"
def figS : Str := "0123456789"
/-- the module's names that are the built-ins', its constants -/
structure Gl8 (mg : Str → Option Value) : Prop where
  isi : mg "isinstance" = none
  str : mg "str" = none
  all : mg "all" = none
  int : mg "int" = none
  bool : mg "bool" = none
  abs : mg "abs" = none
  range : mg "range" = none
  tuple : mg "tuple" = none
  list : mg "list" = none
  len : mg "len" = none
  reversed : mg "reversed" = none
  enumerate : mg "enumerate" = none
  dict : mg "dict" = none
  repr : mg "repr" = none
  min : mg "min" = none
  deep : ∃ t, mg "MOST_DEEP" = some (.int 60 t)
  figs : ∃ t, mg "MOST_FIGURES" = some (.int 12 t)
  number : ∃ t, mg "MOST_NUMBER" = some (.int 1000000000000 t)
  small : ∃ t, mg "SMALL" = some (.str smallS t)
  figures : ∃ t, mg "FIGURES" = some (.str figS t)
/-! ### data -/
def tyD : PyData → String
  | .none => "NoneType"
  | .bool _ => "bool"
  | .int _ => "int"
  | .str _ => "str"
  | .list _ => "list"
  | .tuple _ => "tuple"
  | .dict _ => "dict"
theorem dp_ty {K : PySem.W.Frag} {H : Hp} {v : V} {d : PyData} (h : Dp K H v d) : TyX K H v (.type (tyD d)) := by
  cases h with
  | non => exact .base .non
  | bl b => exact .base (.bl b)
  | int i => exact .base (.int i)
  | str x => exact .base (.str x)
  | lst s _ =>
    rcases s with (s | ⟨o, s⟩) | ⟨o, _, _, e, c, _⟩
    · exact .base (.lst s)
    · exact .base (.frz s)
    · exact .kList e c
  | tup s _ =>
    rcases s with (s | ⟨o, s⟩) | ⟨o, _, _, e, c, _⟩
    · exact .base (.tup s)
    · exact .fTuple s
    · exact .kTuple e c
/-- H' has H's tuples -/
def TExt (H H' : Hp) : Prop := ∀ b xs, H b = some (.tup xs) → H' b = some (.tup xs)
theorem TExt.refl (H : Hp) : TExt H H := fun _ _ h => h
theorem TExt.trans {H H1 H2 : Hp} (a : TExt H H1) (b : TExt H1 H2) : TExt H H2 := fun c o h => b c o (a c o h)
theorem TExt.of {H H' : Hp} (e : Same H H') : TExt H H' := fun b _ h => e b _ h
theorem TExt.upd {H : Hp} {a : Addr} {o u : HO} (e : H a = some u) (hu : ∀ xs, u ≠ .tup xs) : TExt H (upd H a o) := fun b xs h => by
  by_cases hb : b = a
  · rw [hb, e] at h; cases h; exact absurd rfl (hu xs)
  · rw [upd_ne hb]; exact h
theorem TExt.new {H : Hp} {a : Addr} {o : HO} (e : H a = none) : TExt H (L2.upd H a o) := fun b xs h => by
  by_cases hb : b = a
  · rw [hb, e] at h; cases h
  · rw [upd_ne hb]; exact h
/-- no list, no dict, no locked thing within -/
def pl : PyData → Bool
  | .none => true
  | .bool _ => true
  | .int _ => true
  | .str _ => true
  | .list _ => false
  | .tuple ds => pls ds
  | .dict _ => false
where pls : List PyData → Bool
  | [] => true
  | d :: ds => pl d && pls ds
/-- data by lists and tuples that are tracked -/
inductive Dv (H : Hp) : V → PyData → Prop
  | non : Dv H .non .none
  | bl (b : Bool) : Dv H (.bl b) (.bool b)
  | int (i : Int) : Dv H (.int i) (.int i)
  | str (x : Str) : Dv H (.str x) (.str x)
  | lst {a : Addr} {xs : List V} {ds : List PyData} (h : H a = some (.lst xs)) (hl : xs.length = ds.length) (hd : ∀ (i : Nat) (x : V) (d : PyData), xs[i]? = some x → ds[i]? = some d → Dv H x d) : Dv H (.ref a) (.list ds)
  | tup {a : Addr} {xs : List V} {ds : List PyData} (h : H a = some (.tup xs)) (hl : xs.length = ds.length) (hd : ∀ (i : Nat) (x : V) (d : PyData), xs[i]? = some x → ds[i]? = some d → Dv H x d) : Dv H (.ref a) (.tuple ds)
theorem Dv.same {H H' : Hp} (e : Same H H') {v : V} {d : PyData} (h : Dv H v d) : Dv H' v d := by
  induction h with
  | non => exact .non
  | bl b => exact .bl b
  | int i => exact .int i
  | str x => exact .str x
  | lst h hl hd ih => exact .lst (e _ _ h) hl ih
  | tup h hl hd ih => exact .tup (e _ _ h) hl ih
theorem pls_get : ∀ {ds : List PyData} {i : Nat} {d : PyData}, pl.pls ds = true → ds[i]? = some d → pl d = true
  | [], i, d, _, h => by simp at h
  | c :: cs, i, d, h, e => by
    have h2 : (pl c && pl.pls cs) = true := h
    obtain ⟨h3, h4⟩ := Bool.and_eq_true_iff.mp h2
    cases i with
    | zero =>
      simp at e
      rw [← e]
      exact h3
    | succ i => exact pls_get h4 (by simpa using e)
theorem Dv.text {H H' : Hp} (e : TExt H H') {v : V} {d : PyData} (h : Dv H v d) (p : pl d = true) : Dv H' v d := by
  induction h with
  | non => exact .non
  | bl b => exact .bl b
  | int i => exact .int i
  | str x => exact .str x
  | lst h hl hd ih => cases p
  | tup h hl hd ih => exact .tup (e _ _ h) hl fun i x d h1 h2 => ih i x d h1 h2 (pls_get p h2)
theorem dpAll_of {K : PySem.W.Frag} {H : Hp} : ∀ {xs : List V} {ds : List PyData}, xs.length = ds.length → (∀ (i : Nat) (x : V) (d : PyData), xs[i]? = some x → ds[i]? = some d → Dp K H x d) → DpAll K H xs ds
  | [], [], _, _ => .nil
  | [], _ :: _, h, _ => by cases h
  | _ :: _, [], h, _ => by cases h
  | x :: xs, d :: ds, h, k => .cons (k 0 x d rfl rfl) (dpAll_of (by simpa using h) fun i y e h1 h2 => k (i + 1) y e (by simpa using h1) (by simpa using h2))
theorem dpAll_get {K : PySem.W.Frag} {H : Hp} : ∀ {xs : List V} {ds : List PyData}, DpAll K H xs ds → xs.length = ds.length ∧ ∀ (i : Nat) (x : V) (d : PyData), xs[i]? = some x → ds[i]? = some d → Dp K H x d
  | _, _, .nil => ⟨rfl, fun i x d h => by simp at h⟩
  | _, _, .cons a b => by
    obtain ⟨h1, h2⟩ := dpAll_get b
    refine ⟨by simp [h1], fun i x d e1 e2 => ?_⟩
    cases i with
    | zero =>
      simp at e1 e2
      subst e1 e2
      exact a
    | succ i => exact h2 i x d (by simpa using e1) (by simpa using e2)
theorem Dv.dp {K : PySem.W.Frag} {H : Hp} {v : V} {d : PyData} (h : Dv H v d) : Dp K H v d := by
  induction h with
  | non => exact .non
  | bl b => exact .bl b
  | int i => exact .int i
  | str x => exact .str x
  | lst h hl hd ih => exact .lst (.inl (.inl h)) (dpAll_of hl ih)
  | tup h hl hd ih => exact .tup (.inl (.inl h)) (dpAll_of hl ih)
theorem dv_ty {K : PySem.W.Frag} {H : Hp} {v : V} {d : PyData} (h : Dv H v d) : TyX K H v (.type (tyD d)) := dp_ty h.dp
end K88
namespace K88
open PySem PySem.Spec PyProof.Rows L2 Evl
/-- how much a value weighs -/
def wt : PyData → Nat
  | .none => 2
  | .bool _ => 2
  | .int _ => 16
  | .str s => s.cps.size + 2
  | .list ds => 3 + wts ds
  | .tuple ds => 3 + wts ds
  | .dict _ => 3
where wts : List PyData → Nat
  | [] => 0
  | d :: ds => wt d + wts ds
abbrev most : Nat := 4000000
theorem most_line {n : Nat} (h : n ≤ most) : n < sizeLine := by
  rw [sizeLine_eq]
  unfold most at h
  omega
def wordS (s : Str) : Bool := !decide (s.cps.size = 0) && s.cps.toList.all fun c => decide (c ∈ smallS.cps.toList)
def isWordD : PyData → Bool
  | .str s => wordS s
  | _ => false
def figI (i : Int) : Bool := decide ((if i < 0 then -i else i) < 1000000000000)
def isFigD : PyData → Bool
  | .int i => figI i
  | _ => false
/-- a promise of a value that hangs on one datum -/
def spD (f : PyData → V) : Sp := fun vs H Q E => ∃ v d, vs = [v] ∧ Dv H v d ∧ wt d ≤ most ∧ ∀ H', Same H H' → Q (f d) H'
theorem spD_len {f : PyData → V} {x : Str} (vs : List V) (H : Hp) (Q : VK) (E : XK) (h : spD f vs H Q E) : vs.length = ([x] : List Str).length := by
  obtain ⟨v, d, rfl, _⟩ := h
  rfl
theorem dp_str {H : Hp} {v : V} {d : PyData} (h : Dv H v d) (t : tyD d = "str") : ∃ s, v = .str s ∧ d = .str s := by
  cases h <;> first | exact ⟨_, rfl, rfl⟩ | (simp [tyD] at t)
theorem dp_int {H : Hp} {v : V} {d : PyData} (h : Dv H v d) (t : tyD d = "int") : ∃ s, v = .int s ∧ d = .int s := by
  cases h <;> first | exact ⟨_, rfl, rfl⟩ | (simp [tyD] at t)
/-- isinstance(v, T) -/
theorem isi_d {K : PySem.W.Frag} {H : Hp} {v : V} {d : PyData} {T : String} {Q : VK} {b : Bool} (h : Dv H v d) (e : kitB (tyD d) T = some b) (q : Q (.bl b) H) : rIsi K [v, .ty T] H Q :=
  ⟨_, _, _, _, _, rfl, .ty T, dv_ty h, kit_ty e, q⟩
def tyNames : List String := ["NoneType", "bool", "int", "str", "list", "tuple", "dict"]
theorem tyD_mem (d : PyData) : tyD d ∈ tyNames := by cases d <;> simp [tyD, tyNames]
theorem kit_no0 : ∀ t ∈ tyNames, ∀ T ∈ ["bool", "int", "str", "list", "tuple", "dict"], t ≠ T → (t = "bool" → T = "int" → False) → kitB t T = some false := by decide +kernel
theorem kit_no {d : PyData} {T : String} (hT : T ∈ ["bool", "int", "str", "list", "tuple", "dict"]) (h : tyD d ≠ T) (h2 : tyD d = "bool" → T = "int" → False := by simp) : kitB (tyD d) T = some false := kit_no0 _ (tyD_mem d) T hT h h2
theorem kit_yes0 : ∀ T ∈ ["bool", "int", "str", "list", "tuple", "dict"], kitB T T = some true := by decide +kernel
theorem kit_yes {d : PyData} {T : String} (hT : T ∈ ["bool", "int", "str", "list", "tuple", "dict"]) (h : tyD d = T) : kitB (tyD d) T = some true := by rw [h]; exact kit_yes0 T hT
theorem take_snoc {α : Type} {l : List α} {i : Nat} {x : α} (h : l[i]? = some x) : l.take (i + 1) = l.take i ++ [x] := by
  rw [List.take_succ, h] <;> rfl
/-- [f(c) for c in s] -/
theorem lc_strMap {z : Str} {g : TG} {te : TE} {vs : List Nat} {σ : L2.St} {H1 : Hp} {D : Addr} {Qd : Hp → Prop} (f : Nat → V) (hz : z.cps.size < sizeLine)
    (hs : ∀ c H (R : V → Hp → Prop) (R' : Hp → Prop), R (f c) H → g (.str ⟨#[c]⟩) (wipe σ vs) H fun σ2 H2 => wipe σ2 vs = wipe σ vs ∧ tYes σ2 H2 fun b H3 => if b = true then te σ2 H3 R else R' H3)
    (hd : Qd (upd H1 D (.lst (z.cps.toList.map f)))) :
    ∃ W : Nat → Nat → Hp → Prop, (∃ m, W 0 m (upd H1 D (.lst []))) ∧ ∀ i m H, W i m H →
      ((Its z).stop i H ∧ Qd H) ∨ ((Its z).go i H ∧ ∃ Nx : Hp → Prop, (∀ H', Nx H' → ∃ m', m' < m ∧ W (i + 1) m' H') ∧ ∀ x H', (Its z).yld i H x H' → g x (wipe σ vs) H' fun σ2 H2 => wipe σ2 vs = wipe σ vs ∧ tYes σ2 H2 fun b H3 =>
        if b = true then te σ2 H3 fun y H4 => ∃ acc, H4 D = some (.lst acc) ∧ acc.length < sizeLine ∧ Nx (upd H4 D (.lst (acc ++ [y]))) else Nx H3) := by
  refine lc_it walk_str (fun i H => H = upd H1 D (.lst ((z.cps.toList.take i).map f))) rfl (fun _ _ _ _ => trivial) (fun i x H H' hi p y => ?_) fun H p => ?_
  · obtain ⟨rfl, c, hc, rfl⟩ := y
    have hc' : z.cps.toList[i]? = some c := by simpa using hc
    refine hs c H' _ _ ⟨(z.cps.toList.take i).map f, ?_, ?_, ?_⟩
    · rw [p]; exact upd_same
    · simp; omega
    · rw [p, upd_upd, take_snoc hc', List.map_append] <;> rfl
  · rw [p]
    rw [show z.cps.toList.take z.cps.size = z.cps.toList from List.take_of_length_le (by simp)]
    exact hd
end K88
namespace K88
open PySem PySem.Spec PyProof.Rows L2 Evl
section
variable {P : Program} {w : World} {K : PySem.W.Frag} {mg : Str → Option Value} {base : Heap} {f : Addr} {fd : FuncData}
abbrev spWord : Sp := spD fun d => .bl (isWordD d)
abbrev spFig : Sp := spD fun d => .bl (isFigD d)
theorem scWd : FnScope ["thing", "sign"] ["thing"] (defScope (top 24)) := ⟨rfl, rfl, rfl, by decide +kernel, rfl, by decide +kernel, by decide +kernel⟩
theorem scFig : FnScope ["thing"] ["thing"] (defScope (top 25)) := ⟨rfl, rfl, rfl, by decide +kernel, rfl, by decide +kernel, by decide +kernel⟩
theorem ok_word (G : Gl8 mg) (F : FnP K "is_word" 24 f fd) : FnOk P w K mg base CX0 1 f fd ["thing"] spWord := by
  refine F.ok scWd spD_len (fun cdv A outer s H vs Q E hr h => ⟨_, pss_one (ps_ret (pe_and (pe_callB call_isi rfl G.isi (by decide +kernel) (pa_cons (pv 0) (pa_cons (pe_bltn (v := .ty "str") (u := .type "str") rfl G.str (by decide +kernel) rfl) pa_nil)))
    (pe_and (pe_cmpR op_ne (pv 0) pe_str (nomark _)) (pe_one (pe_callB (cr_all rfl) rfl G.all (by decide +kernel) (pa_cons 
      (pe_lc (own := [("sign", 1)]) (g := gName 1) rfl scWd.nd (pi_str (pv 0)) (blkOk_by (N := ["thing","sign"]) (sc := defScope (top 24)) (by decide +kernel)) (fun _ _ _ _ _ => pg_name (i := 1) scWd.nd rfl (Or.inl rfl)) (fun _ _ _ _ _ => pts_nil)
        (fun _ _ _ _ _ => pe_cmpR op_in_sign (pv 1) (G.small.elim fun t e => pe_glob (v := .str smallS) rfl e ⟨t, rfl⟩) rfl)) pa_nil)))))), ?_⟩)
  obtain ⟨v, d, rfl, hv, hw, hQ⟩ := h
  have hQ : ∀ H', Same H H' → Q (.bl (isWordD d)) H' := hQ
  refine ⟨v, rfl, ?_⟩
  by_cases hs : tyD d = "str"
  · obtain ⟨z, rfl, rfl⟩ := dp_str hv hs
    refine ⟨_, _, _, _, true, rfl, .ty _, dv_ty hv, kit_ty (show kitB "str" "str" = some true by decide +kernel), ?_⟩
    refine ⟨true, rfl, iteT ?_⟩
    refine ⟨_, rfl, rfl, _, rfl, ?_⟩
    by_cases hz : z.cps.size = 0
    · have e : z = (Str.empty : Str) := by
        obtain ⟨⟨l⟩⟩ := z
        cases l with
        | nil => rfl
        | cons _ _ => simp at hz
      have ee : decide (V.str z = V.str (Str.ofString "")) = true := by rw [e]; decide
      rw [ee]
      refine iteF ?_
      have e2 : isWordD (.str z) = false := by simp [isWordD, wordS, hz]
      rw [← e2]
      exact hQ _ (Same.refl _)
    · have ee : decide (V.str z = V.str (Str.ofString "")) = false := by
        refine decide_eq_false fun q => hz ?_
        injection q with q
        rw [q]
        rfl
      rw [ee]
      refine iteT ?_
      refine ⟨_, rfl, z, rfl, fun D hD => lc_strMap (fun c => .bl (decide (c ∈ smallS.cps.toList))) ?_ ?_ ?_⟩
      · exact most_line (by unfold wt at hw; omega)
      · intro c H R R' hR
        exact ⟨rfl, ⟨_, rfl, c, _, rfl, rfl, hR⟩⟩
      · refine ⟨D, z.cps.toList.map fun c => decide (c ∈ smallS.cps.toList), rfl, ?_, ?_⟩
        · rw [List.map_map]
          exact SqL.of upd_same
        · have e2 : ((z.cps.toList.map fun c => decide (c ∈ smallS.cps.toList)).all id) = isWordD (.str z) := by
            simp [isWordD, wordS, hz, List.all_map]
          rw [e2]
          refine hQ _ fun b o e => ?_
          rw [upd_ne (ne_of_none e hD)]
          exact e
  · have e2 : isWordD d = false := by cases d <;> first | rfl | exact absurd rfl hs
    rw [e2] at hQ
    refine ⟨_, _, _, _, false, rfl, .ty _, dv_ty hv, kit_ty ?_, ?_⟩
    rotate_left
    · exact ⟨false, rfl, iteF (hQ _ (Same.refl _))⟩
    exact kit_no (by simp) hs
theorem ok_fig (G : Gl8 mg) (F : FnP K "is_figure" 25 f fd) : FnOk P w K mg base CX0 1 f fd ["thing"] spFig := by
  refine F.ok scFig spD_len (fun cdv A outer s H vs Q E hr h => ⟨_, pss_one (ps_ret (pe_and (pe_callB call_isi rfl G.isi (by decide +kernel) (pa_cons (pv 0) (pa_cons (pe_bltn (v := .ty "int") (u := .type "int") rfl G.int (by decide +kernel) rfl) pa_nil)))
    (pe_and (pe_not (pe_callB call_isi rfl G.isi (by decide +kernel) (pa_cons (pv 0) (pa_cons (pe_bltn (v := .ty "bool") (u := .type "bool") rfl G.bool (by decide +kernel) rfl) pa_nil))))
      (pe_one (pe_cmp (pc_lt (pe_callB call_abs rfl G.abs (by decide +kernel) (pa_cons (pv 0) pa_nil)) (G.number.elim fun t e => pe_glob (v := .int 1000000000000) rfl e ⟨t, rfl⟩)) rfl))))), ?_⟩)
  obtain ⟨v, d, rfl, hv, hw, hQ⟩ := h
  have hQ : ∀ H', Same H H' → Q (.bl (isFigD d)) H' := hQ
  refine ⟨v, rfl, ?_⟩
  by_cases hi : tyD d = "int"
  · obtain ⟨i, rfl, rfl⟩ := dp_int hv hi
    refine ⟨_, _, _, _, true, rfl, .ty _, dv_ty hv, kit_ty (show kitB "int" "int" = some true by decide +kernel), ?_⟩
    refine ⟨true, rfl, iteT ?_⟩
    refine ⟨_, rfl, ⟨_, _, _, _, false, rfl, .ty _, dv_ty hv, kit_ty (show kitB "int" "bool" = some false by decide +kernel), ?_⟩⟩
    refine ⟨false, rfl, true, rfl, iteT ?_⟩
    exact ⟨_, rfl, _, rfl, _, _, rfl, rfl, hQ _ (Same.refl _)⟩
  · by_cases hb : tyD d = "bool"
    · have e2 : isFigD d = false := by cases d <;> first | rfl | exact absurd rfl hi
      rw [e2] at hQ
      refine ⟨_, _, _, _, true, rfl, .ty _, dv_ty hv, kit_ty (by rw [hb]; decide +kernel), ?_⟩
      refine ⟨true, rfl, iteT ?_⟩
      refine ⟨_, rfl, ⟨_, _, _, _, true, rfl, .ty _, dv_ty hv, kit_ty (by rw [hb]; decide +kernel), ?_⟩⟩
      exact ⟨true, rfl, false, rfl, iteF (hQ _ (Same.refl _))⟩
    · have e2 : isFigD d = false := by cases d <;> first | rfl | exact absurd rfl hi
      rw [e2] at hQ
      refine ⟨_, _, _, _, false, rfl, .ty _, dv_ty hv, kit_ty ?_, ?_⟩
      rotate_left
      · exact ⟨false, rfl, iteF (hQ _ (Same.refl _))⟩
      exact kit_no (by simp) hi fun z _ => hb z
end
end K88
namespace K88
open PySem PySem.Spec PyProof.Rows L2 Evl
structure DefAt (K : PySem.W.Frag) (mg : Str → Option Value) (x : Str) (i : Nat) (f : Addr) (fd : FuncData) : Prop where
  fn : FnP K x i f fd
  g : mg x = some (.ref f)
/-! ### values -/
def val : PyData → Nat → Bool
  | .tuple ds, n => (match n with
    | 0 => false
    | m + 1 => vals ds m)
  | .none, _ => true
  | .str s, _ => wordS s
  | .int i, _ => figI i
  | .bool _, _ => false
  | .list _, _ => false
  | .dict _, _ => false
where vals : List PyData → Nat → Bool
  | [], _ => true
  | d :: ds, n => val d n && vals ds n
def locB (n : Nat) : PyData → Bool
  | .tuple _ => decide (0 < n)
  | .none => true
  | d => isWordD d || isFigD d
def kids : PyData → List PyData
  | .tuple ds => ds
  | _ => []
theorem vals_all : ∀ (ds : List PyData) (n : Nat), val.vals ds n = ds.all fun d => val d n
  | [], _ => rfl
  | d :: ds, n => by
    show (val d n && val.vals ds n) = _
    rw [vals_all ds n] <;> rfl
theorem val_loc (d : PyData) (n : Nat) : val d n = (locB n d && val.vals (kids d) (n - 1)) := by
  cases d with
  | tuple ds =>
    cases n with
    | zero => rfl
    | succ m => show val.vals ds m = (decide (0 < m + 1) && val.vals ds (m + 1 - 1)); simp
  | none => rfl
  | bool b => rfl
  | int i => show figI i = ((isWordD (.int i) || isFigD (.int i)) && true); simp [isWordD, isFigD]
  | str s => show wordS s = ((isWordD (.str s) || isFigD (.str s)) && true); simp [isWordD, isFigD]
  | list ds => rfl
  | dict ds => rfl
theorem vals_app (a b : List PyData) (n : Nat) : val.vals (a ++ b) n = (val.vals a n && val.vals b n) := by
  rw [vals_all, vals_all, vals_all, List.all_append]
theorem all_loc : ∀ (ds : List PyData) (n : Nat), ds.all (fun d => val d n) = (ds.all (locB n) && val.vals (ds.flatMap kids) (n - 1))
  | [], _ => rfl
  | d :: ds, n => by
    simp only [List.all_cons, List.flatMap_cons]
    rw [vals_app, all_loc ds n, val_loc d n]
    cases locB n d <;> cases ds.all (locB n) <;> cases val.vals (kids d) (n - 1) <;> cases val.vals (ds.flatMap kids) (n - 1) <;> rfl
theorem wts_app : ∀ (a b : List PyData), wt.wts (a ++ b) = wt.wts a + wt.wts b
  | [], b => by simp [wt.wts]
  | d :: a, b => by
    show wt d + wt.wts (a ++ b) = wt d + wt.wts a + wt.wts b
    rw [wts_app a b]; omega
theorem wts_kids : ∀ (ds : List PyData), wt.wts (ds.flatMap kids) ≤ wt.wts ds
  | [] => Nat.le_refl _
  | d :: ds => by
    rw [List.flatMap_cons, wts_app]
    have h := wts_kids ds
    have h2 : wt.wts (kids d) ≤ wt d := by cases d <;> simp [kids, wt, wt.wts]
    show _ ≤ wt d + wt.wts ds
    omega
theorem wt_pos (d : PyData) : 2 ≤ wt d := by cases d <;> simp [wt] <;> omega
theorem len_wts : ∀ (ds : List PyData), ds.length ≤ wt.wts ds
  | [] => Nat.le_refl _
  | d :: ds => by
    have h := len_wts ds
    have h2 := wt_pos d
    show ds.length + 1 ≤ wt d + wt.wts ds
    omega
theorem wts_get : ∀ {ds : List PyData} {i : Nat} {d : PyData}, ds[i]? = some d → wt d ≤ wt.wts ds
  | [], i, d, h => by simp at h
  | c :: cs, i, d, e => by
    show _ ≤ wt c + wt.wts cs
    cases i with
    | zero => simp at e; rw [e]; omega
    | succ i =>
      have := wts_get (ds := cs) (by simpa using e)
      omega
/-- the values xs are the data ds -/
def DvL (H : Hp) (xs : List V) (ds : List PyData) : Prop := xs.length = ds.length ∧ ∀ (i : Nat) (x : V) (d : PyData), xs[i]? = some x → ds[i]? = some d → Dv H x d
theorem DvL.nil {H : Hp} : DvL H [] [] := ⟨rfl, fun i x d h => by simp at h⟩
theorem DvL.app {H : Hp} {xs ys : List V} {ds es : List PyData} (a : DvL H xs ds) (b : DvL H ys es) : DvL H (xs ++ ys) (ds ++ es) := by
  refine ⟨by simp [a.1, b.1], fun i x d h1 h2 => ?_⟩
  by_cases hi : i < xs.length
  · rw [List.getElem?_append_left hi] at h1
    rw [List.getElem?_append_left (by rw [← a.1]; exact hi)] at h2
    exact a.2 i x d h1 h2
  · rw [List.getElem?_append_right (by omega)] at h1
    rw [List.getElem?_append_right (by rw [← a.1]; omega)] at h2
    exact b.2 _ x d h1 (by rw [a.1]; exact h2)
theorem DvL.one {H : Hp} {x : V} {d : PyData} (h : Dv H x d) : DvL H [x] [d] := ⟨rfl, fun i y e h1 h2 => by
  cases i with
  | zero => simp at h1 h2; subst h1 h2; exact h
  | succ i => simp at h1⟩
theorem DvL.same {H H' : Hp} {xs : List V} {ds : List PyData} (e : Same H H') (a : DvL H xs ds) : DvL H' xs ds := ⟨a.1, fun i x d h1 h2 => (a.2 i x d h1 h2).same e⟩
theorem DvL.get {H : Hp} {xs : List V} {ds : List PyData} {i : Nat} {x : V} (a : DvL H xs ds) (h : xs[i]? = some x) : ∃ d, ds[i]? = some d ∧ Dv H x d := by
  have hi : i < ds.length := by
    rw [← a.1]
    exact (List.getElem?_eq_some_iff.mp h).1
  exact ⟨ds[i], by simp [hi], a.2 i x _ h (by simp [hi])⟩
theorem dv_tup {H : Hp} {v : V} {d : PyData} (h : Dv H v d) (t : tyD d = "tuple") : ∃ a xs ds, v = .ref a ∧ d = .tuple ds ∧ H a = some (.tup xs) ∧ DvL H xs ds := by
  cases h <;> first | exact ⟨_, _, _, rfl, rfl, ‹_›, ‹_›, ‹_›⟩ | (simp [tyD] at t)
theorem dv_list {H : Hp} {v : V} {d : PyData} (h : Dv H v d) (t : tyD d = "list") : ∃ a xs ds, v = .ref a ∧ d = .list ds ∧ H a = some (.lst xs) ∧ DvL H xs ds := by
  cases h <;> first | exact ⟨_, _, _, rfl, rfl, ‹_›, ‹_›, ‹_›⟩ | (simp [tyD] at t)
theorem same_new {H : Hp} {p : Addr} {o : HO} (h : H p = none) : Same H (L2.upd H p o) := fun b u e => by
  rw [upd_ne (ne_of_none e h)]
  exact e
/-- H' has all that H has, where p is new -/
theorem same_upd {H H' : Hp} {p : Addr} {o : HO} (e : Same H H') (h : H p = none) : Same H (L2.upd H' p o) := fun b u q => by
  rw [upd_ne (ne_of_none q h)]
  exact e _ _ q
end K88
namespace K88
open PySem PySem.Spec PyProof.Rows L2 Evl
abbrev spVal : Sp := spD fun d => .bl (val d 59)
theorem scVal : FnScope ["thing", "layer", "deep", "later", "one"] ["thing"] (defScope (top 26)) := ⟨rfl, rfl, rfl, by decide +kernel, rfl, by decide +kernel, by decide +kernel⟩
theorem spD_app {f : PyData → V} {v : V} {d : PyData} {H : Hp} {Q : VK} {E : XK} (h : Dv H v d) (hw : wt d ≤ most) (q : ∀ H', Same H H' → Q (f d) H') : spD f [v] H Q E := ⟨v, d, rfl, h, hw, q⟩
section
variable {P : Program} {w : World} {K : PySem.W.Frag} {mg : Str → Option Value} {base : Heap} {f f1 f2 : Addr} {fd fd1 fd2 : FuncData}
theorem bind1 {x a : Str} {i : Nat} {f : Addr} {fd : FuncData} (F : FnP K x i f fd) (h : ∀ (kV doc pm : Value) (an : Option Addr) (cdv ct : Value) (u : Value), bindArgs (PySem.W.fnOf x x (defArgs (top i)) (defBody (top i)) (defScope (top i)) .none kV doc pm an cdv ct) ⟨[u], []⟩ = pure [(a, u)]) : Binds K fd [a] [] :=
  F.bindsN fun kV doc pm an cdv ct us hl => match us, hl with | [u], _ => h kV doc pm an cdv ct u
theorem ok_val (G : Gl8 mg) (F : FnP K "is_value" 26 f fd) (F1 : DefAt K mg "is_word" 24 f1 fd1) (F2 : DefAt K mg "is_figure" 25 f2 fd2) : FnOk P w K mg base CX0 2 f fd ["thing"] spVal := by
  have G1 : FnOk P w K mg base CX0 1 f1 fd1 ["thing"] spWord := ok_word G F1.fn
  have G2 : FnOk P w K mg base CX0 1 f2 fd2 ["thing"] spFig := ok_fig G F2.fn
  have b1 : Binds K fd1 ["thing"] [] := bind1 F1.fn fun _ _ _ _ _ _ _ => rfl
  have b2 : Binds K fd2 ["thing"] [] := bind1 F2.fn fun _ _ _ _ _ _ _ => rfl
  obtain ⟨td, ed⟩ := G.deep
  refine F.ok scVal spD_len (fun cdv A outer s H vs Q E hr h => ⟨_, PSs.nox (pss_cons (ps_set (i := 1) scVal.nd rfl (Or.inl rfl) (pe_lst (pa_cons (pv 0) pa_nil)))
    (pss_cons (ps_for PassesOwn.never rfl (pi_range1 rfl G.range (pa_cons (pe_glob (v := .int 60) rfl ed ⟨td, rfl⟩) pa_nil)) (pg_name (i := 2) scVal.nd rfl (Or.inl rfl))
      (pss_cons (ps_set (i := 3) scVal.nd rfl (Or.inl rfl) (pe_lst pa_nil))
      (pss_cons (ps_for PassesOwn.never rfl (pi_list (pv 1)) (pg_name (i := 4) scVal.nd rfl (Or.inl rfl))
        (pss_one (ps_if (PW.pt (pw_and (pt_val (pe_callB call_isi rfl G.isi (by decide +kernel) (pa_cons (pv 4) (pa_cons (pe_bltn (v := .ty "tuple") (u := .type "tuple") rfl G.tuple (by decide +kernel) rfl) pa_nil))))
            (pw_and1 (pt_cmpR op_lt (pv 2) (pe_op op_sub (pe_glob (v := .int 60) rfl ed ⟨td, rfl⟩) pe_int) (nomark _)))))
          (pss_one (ps_expr (pe_bm PySem.F.plainAttrs_list PySem.F.slot_list_extend PySem.F.type_list_extend mt_extT (pv 3) (pa_cons (pv 4) pa_nil))))
          (pss_one (ps_if (PW.pt (pw_and (pt_cmpR op_notN (pv 4) pe_non (nomark _)) (pw_and (pt_not (pt_val (pe_call G1 hr rfl F1.g F1.fn.kp b1 .nil pass0 (pa_cons (pv 4) pa_nil)))) (pw_and1 (pt_not (pt_val (pe_call G2 hr rfl F2.g F2.fn.kp b2 .nil pass0 (pa_cons (pv 4) pa_nil))))))))
            (pss_one (ps_ret pe_bl)) pss_nil)))))
      (pss_cons (ps_if (pt_cmpR (op_ee hr.units0) (pv 3) (pe_lst pa_nil) (nomark _)) (pss_one (ps_ret pe_bl)) pss_nil)
      (pss_one (ps_set (i := 1) scVal.nd rfl (Or.inl rfl) (pv 3)))))))
    (pss_one (ps_ret pe_bl)))), ?_⟩)
  obtain ⟨v, d, rfl, hv, hw, hQ⟩ := h
  have hQ : ∀ H', Same H H' → Q (.bl (val d 59)) H' := hQ
  refine ⟨v, rfl, by show 1 ≤ sizeLine; decide, fun l hl => ?_⟩
  refine ⟨60, rfl, by decide, by decide, for_range (n := 60) (fun i σ H' => i < 60 ∧ ∃ l xs ds v2 v3 v4, σ = [some v, some (.ref l), v2, v3, v4] ∧ Same H H' ∧ H l = none ∧ H' l = some (.lst xs) ∧ DvL H' xs ds ∧ wt.wts ds ≤ wt d ∧ ds.all (fun e => val e (59 - i)) = val d 59) ?_ ?_ ?_⟩
  · exact ⟨by decide, l, [v], [d], none, none, none, rfl, same_new hl, hl, upd_same, DvL.one (hv.same (same_new hl)), by simp [wt.wts], by simp⟩
  · rintro i σ H1 hi ⟨_, l, xs, ds, v2, v3, v4, rfl, s1, hl0, hl1, dl, hws, hall⟩
    have hn : H1 l ≠ none := by rw [hl1]; simp
    refine ⟨by show 0 ≤ sizeLine; decide, fun r hr0 => ?_⟩
    have nlr : l ≠ r := ne_of_none hl1 hr0
    have s2 : Same H1 (L2.upd H1 r (.lst [])) := same_new hr0
    refine ⟨_, rfl, l, rfl, ⟨xs, SqL.of (s2 _ _ hl1)⟩, for_list (K := K) (a := l) (xs := xs) (fun j σ H2 => ∃ ys v4, σ = [some v, some (.ref l), some (.int (0 + (i : Int))), some (.ref r), v4] ∧ Same H1 H2 ∧ H2 r = some (.lst ys) ∧ DvL H1 ys ((ds.take j).flatMap kids) ∧ (ds.take j).all (locB (59 - i)) = true) ?_ (fun j σ H2 _ ⟨ys, v4, _, s3, _⟩ => SqL.of (s3 _ _ hl1)) ?_ ?_⟩
    · exact ⟨[], v4, rfl, s2, upd_same, DvL.nil, rfl⟩
    · rintro j x σ H2 hj ⟨ys, v4, rfl, s3, hr2, dys, hloc⟩
      obtain ⟨e, he, dx⟩ := dl.get hj
      have dx1 := dx
      have dx := dx.same s3
      have tk : ds.take (j + 1) = ds.take j ++ [e] := take_snoc he
      have we : wt e ≤ most := Nat.le_trans (wts_get he) (Nat.le_trans hws hw)
      have bad : locB (59 - i) e = false → val d 59 = false := fun hb => by
        rw [← hall, all_loc]
        have : ds.all (locB (59 - i)) = false := List.all_eq_false.mpr ⟨e, List.mem_of_getElem? he, by rw [hb]; simp⟩
        rw [this]; rfl
      have good : ∀ H4, Same H2 H4 → locB (59 - i) e = true → kids e = [] → ∃ ys v4, [some v, some (V.ref l), some (V.int (0 + (i : Int))), some (V.ref r), some x] = [some v, some (.ref l), some (.int (0 + (i : Int))), some (.ref r), v4] ∧ Same H1 H4 ∧ H4 r = some (.lst ys) ∧ DvL H1 ys ((ds.take (j + 1)).flatMap kids) ∧ (ds.take (j + 1)).all (locB (59 - i)) = true := fun H4 s4 h1 h2 => by
        refine ⟨ys, some x, rfl, s3.trans s4, s4 _ _ hr2, ?_, ?_⟩
        · rw [tk, List.flatMap_append]
          simpa [h2] using dys
        · rw [tk, List.all_append, hloc]
          simp [h1]
      have leaf : (tyD e = "tuple" → i = 59) → ∀ (R : Bool → Hp → Prop), (∀ H4, Same H2 H4 → R (!locB (59 - i) e) H4) → (tAnd (tTest (tOp (fun x y H Q => y = V.non ∧ Q (V.bl !decide (x = V.non)) H) (tVar 4) (tC V.non))) (tAnd (tNot (tB (tCall spWord [] E0 (tCons (tVar 4) tNil)))) (tNot (tB (tCall spFig [] E0 (tCons (tVar 4) tNil)))))) [some v, some (V.ref l), some (V.int (0 + (i : Int))), some (V.ref r), some x] H2 R := fun ht R hR => by
        refine ⟨_, rfl, rfl, _, rfl, ?_⟩
        by_cases hx : x = V.non
        · subst hx
          cases dx
          exact iteF (hR _ (Same.refl _))
        · have hx2 : (!decide (x = V.non)) = true := by simp [hx]
          rw [hx2]
          refine iteT ?_
          refine ⟨x, rfl, x, e, rfl, dx, we, fun H5 s5 => ⟨_, rfl, ?_⟩⟩
          have key : locB (59 - i) e = (isWordD e || isFigD e) := by
            cases e with
            | none => cases dx; exact absurd rfl hx
            | tuple es =>
              have := ht rfl
              subst this
              rfl
            | _ => rfl
          cases hwd : isWordD e with
          | true =>
            refine iteF ?_
            have := hR H5 s5
            rw [key, hwd] at this
            exact this
          | false =>
            refine iteT ?_
            refine ⟨x, rfl, x, e, rfl, dx.same s5, we, fun H6 s6 => ⟨_, rfl, ?_⟩⟩
            have := hR H6 (s5.trans s6)
            rw [key, hwd, Bool.false_or] at this
            exact this
      by_cases ht : tyD e = "tuple"
      · refine ⟨x, rfl, ⟨_, _, _, _, true, rfl, .ty _, dv_ty dx, kit_ty (kit_yes (by simp) ht), ?_⟩⟩
        refine ⟨true, rfl, iteT ?_⟩
        refine ⟨_, rfl, _, _, rfl, rfl, _, _, rfl, rfl, _, rfl, ?_⟩
        by_cases h59 : i = 59
        · subst h59
          refine iteF (leaf (fun _ => rfl) _ fun H4 s4 => ?_)
          have hb : locB (59 - 59) e = false := by
            cases e with
            | tuple es => rfl
            | _ => simp [tyD] at ht
          rw [hb]
          refine iteT ?_
          have := hQ H4 ((s1.trans s3).trans s4)
          rw [bad hb] at this
          exact this
        · have hlt : decide ((0 + (i : Int)) < 60 - 1) = true := decide_eq_true (by omega)
          rw [hlt]
          refine iteT ?_
          obtain ⟨a, zs, es, rfl, rfl, ha1, des⟩ := dv_tup dx1 ht
          have ha := s3 _ _ ha1
          have wk : wt.wts ((ds.take (j + 1)).flatMap kids) ≤ most := by
            refine Nat.le_trans (wts_kids _) (Nat.le_trans ?_ (Nat.le_trans hws hw))
            have := wts_app (ds.take (j + 1)) (ds.drop (j + 1))
            rw [List.take_append_drop] at this
            omega
          have lk := Nat.le_trans (len_wts _) wk
          have dn : DvL H1 (ys ++ zs) ((ds.take (j + 1)).flatMap kids) := by
            rw [tk, List.flatMap_append]
            have : [PyData.tuple es].flatMap kids = es := by simp [kids]
            rw [this]
            exact dys.app des
          refine ⟨_, rfl, .inl ⟨rfl, _, SqL.of hr2⟩, _, rfl, r, a, ys, zs, rfl, rfl, hr2, ha, ?_, ?_⟩
          · rw [← dn.1, List.length_append] at lk
            exact Nat.le_of_lt (most_line lk)
          · refine ⟨ys ++ zs, some (.ref a), rfl, same_upd s3 hr0, upd_same, ?_, ?_⟩
            · exact dn
            · rw [tk, List.all_append, hloc]
              simp [locB]
              omega
      · refine ⟨x, rfl, ⟨_, _, _, _, false, rfl, .ty _, dv_ty dx, kit_ty (kit_no (by simp) ht), ?_⟩⟩
        refine ⟨false, rfl, iteF (iteF ?_)⟩
        refine leaf (fun z => absurd z ht) _ fun H4 s4 => ?_
        have hk : kids e = [] := by
          cases e with
          | tuple es => exact absurd rfl ht
          | _ => rfl
        cases hb : locB (59 - i) e with
        | true => exact iteF (good H4 s4 hb hk)
        | false =>
          refine iteT ?_
          have := hQ H4 ((s1.trans s3).trans s4)
          rw [bad hb] at this
          exact this
    · rintro σ H2 ⟨ys, v4, rfl, s3, hr2, dys, hloc⟩
      have fin : ds.take xs.length = ds := List.take_of_length_le (Nat.le_of_eq dl.1.symm)
      rw [fin] at dys hloc
      have key : val.vals (ds.flatMap kids) (59 - i - 1) = val d 59 := by rw [← hall, all_loc, hloc, Bool.true_and]
      refine ⟨_, rfl, by show 0 ≤ sizeLine; decide, fun p hp => ?_⟩
      have npr : r ≠ p := ne_of_none hr2 hp
      refine ⟨r, p, ys, rfl, rfl, npr, SqL.of (by rw [upd_ne npr]; exact hr2), SqL.of upd_same, _, rfl, ?_⟩
      have s5 : Same H2 (L2.upd H2 p (.lst [])) := same_new hp
      cases hys : ys.isEmpty with
      | true =>
        refine iteT ?_
        have e0 : ys = [] := List.isEmpty_iff.mp hys
        have e1 : ds.flatMap kids = [] := List.eq_nil_of_length_eq_zero (by rw [← dys.1, e0]; rfl)
        rw [e1] at key
        have := hQ _ ((s1.trans s3).trans s5)
        rw [← key] at this
        exact this
      | false =>
        refine iteF ?_
        refine ⟨_, rfl, ?_, r, ys, ds.flatMap kids, _, _, _, rfl, (s1.trans s3).trans s5, ?_, ?_, dys.same (s3.trans s5), ?_, ?_⟩
        · rcases Nat.lt_or_ge (i + 1) 60 with h | h
          · exact h
          · have h59 : i = 59 := by omega
            subst h59
            exfalso
            have : ds.flatMap kids = [] := by
              refine List.flatMap_eq_nil_iff.mpr fun e he => ?_
              have := List.all_eq_true.mp hloc e he
              cases e with
              | tuple es => simp [locB] at this
              | _ => rfl
            rw [this] at dys
            have := List.eq_nil_of_length_eq_zero dys.1
            rw [this] at hys
            cases hys
        · cases q : H r with
          | none => rfl
          | some u => rw [s1 _ _ q] at hr0; cases hr0
        · rw [upd_ne npr]; exact hr2
        · exact Nat.le_trans (wts_kids _) hws
        · rw [← vals_all, ← key]
          rfl
  · rintro σ H1 ⟨h, _⟩
    exact absurd h (by decide)
end
end K88
/-! A value's text, as pieces. -/
namespace K88
open PySem
def leafT : PyData → Str
  | .none => "-"
  | .int i => toString i
  | .str s => s
  | _ => Str.empty
def pcs : PyData → List Str
  | .tuple ds => "(" :: (pcsL ds ++ [(")" : Str)])
  | .none => [leafT .none]
  | .int i => [leafT (.int i)]
  | .str s => [leafT (.str s)]
  | .bool _ => []
  | .list _ => []
  | .dict _ => []
where pcsL : List PyData → List Str
  | [] => []
  | d :: ds => pcs d ++ (match ds with
    | [] => []
    | _ :: _ => (" " : Str) :: pcsL ds)
def textD (d : PyData) : Str := Txt.join Str.empty (pcs d)
theorem len_num {i : Int} (h : figI i = true) : (Str.ofString (toString i)).length ≤ 13 := by
  have h1 := of_decide_eq_true h
  have h2 : i.natAbs < 10 ^ 12 := by
    split at h1 <;> omega
  have := int_text_length_le10 (k := 12) (by decide) h2
  rw [ofString_length]
  exact this
def lens (l : List Str) : Nat := (l.map (·.length)).sum
theorem lens_app (a b : List Str) : lens (a ++ b) = lens a + lens b := by simp [lens, List.map_append, List.sum_append]
theorem lens_cons (a : Str) (b : List Str) : lens (a :: b) = a.length + lens b := by simp [lens]
mutual
theorem lens_pcs : ∀ (d : PyData) (n : Nat), val d n = true → lens (pcs d) + 1 ≤ wt d
  | .tuple ds, 0, h => by cases h
  | .tuple ds, n + 1, h => by
    have ih := lens_pcsL ds n h
    show lens ("(" :: (pcs.pcsL ds ++ [(")" : Str)])) + 1 ≤ 3 + wt.wts ds
    rw [lens_cons, lens_app, lens_cons]
    have e1 : ("(" : Str).length = 1 := by decide
    have e2 : (")" : Str).length = 1 := by decide
    have e3 : lens [] = 0 := rfl
    rw [e1, e2, e3]
    omega
  | .none, _, _ => by decide
  | .int i, _, h => by
    have := len_num (i := i) h
    show lens [Str.ofString (toString i)] + 1 ≤ 16
    rw [lens_cons]
    have e3 : lens [] = 0 := rfl
    omega
  | .str s, _, h => by
    show lens [s] + 1 ≤ s.cps.size + 2
    rw [lens_cons]
    have e3 : lens [] = 0 := rfl
    have : s.length = s.cps.size := rfl
    omega
  | .bool _, _, h => by cases h
  | .list _, _, h => by cases h
  | .dict _, _, h => by cases h
theorem lens_pcsL : ∀ (ds : List PyData) (n : Nat), val.vals ds n = true → lens (pcs.pcsL ds) ≤ wt.wts ds
  | [], _, _ => by decide
  | d :: ds, n, h => by
    obtain ⟨h1, h2⟩ := Bool.and_eq_true_iff.mp (show (val d n && val.vals ds n) = true from h)
    have i1 := lens_pcs d n h1
    have i2 := lens_pcsL ds n h2
    cases ds with
    | nil =>
      show lens (pcs d ++ []) ≤ wt d + wt.wts []
      rw [List.append_nil]
      omega
    | cons e es =>
      show lens (pcs d ++ ((" " : Str) :: pcs.pcsL (e :: es))) ≤ wt d + wt.wts (e :: es)
      rw [lens_app, lens_cons]
      have e1 : (" " : Str).length = 1 := by decide
      omega
end
end K88
/-! The stack of value_text. -/
namespace K88
open PySem PySem.Spec PyProof.Rows L2 Evl
mutual
theorem val_pl : ∀ (d : PyData) (n : Nat), val d n = true → pl d = true
  | .tuple ds, 0, h => by cases h
  | .tuple ds, n + 1, h => vals_pls ds n h
  | .none, _, _ => rfl
  | .int _, _, _ => rfl
  | .str _, _, _ => rfl
  | .bool _, _, h => rfl
  | .list _, _, h => by cases h
  | .dict _, _, h => by cases h
theorem vals_pls : ∀ (ds : List PyData) (n : Nat), val.vals ds n = true → pl.pls ds = true
  | [], _, _ => rfl
  | d :: ds, n, h => by
    obtain ⟨h1, h2⟩ := Bool.and_eq_true_iff.mp (show (val d n && val.vals ds n) = true from h)
    show (pl d && pl.pls ds) = true
    rw [val_pl d n h1, vals_pls ds n h2]; rfl
end
theorem vals_get : ∀ {ds : List PyData} {i n : Nat} {d : PyData}, val.vals ds n = true → ds[i]? = some d → val d n = true
  | [], i, _, d, _, h => by simp at h
  | c :: cs, i, n, d, h, e => by
    obtain ⟨h1, h2⟩ := Bool.and_eq_true_iff.mp (show (val c n && val.vals cs n) = true from h)
    cases i with
    | zero => simp at e; rw [← e]; exact h1
    | succ i => exact vals_get h2 (by simpa using e)
abbrev It2 : Type := Str ⊕ PyData
def out1 : It2 → List Str
  | .inl s => [s]
  | .inr d => pcs d
def outs (l : List It2) : List Str := l.flatMap out1
def wti : It2 → Nat
  | .inl _ => 1
  | .inr d => 2 * wt d - 1
def wtis (l : List It2) : Nat := (l.map wti).sum
theorem wtis_app (a b : List It2) : wtis (a ++ b) = wtis a + wtis b := by simp [wtis, List.sum_append]
theorem wtis_one (a : It2) : wtis [a] = wti a := by simp [wtis]
theorem len_wtis : ∀ (l : List It2), l.length ≤ wtis l
  | [] => Nat.le_refl _
  | x :: l => by
    have h := len_wtis l
    have h1 : 1 ≤ wti x := by
      cases x with
      | inl s => exact Nat.le_refl _
      | inr d =>
        have := wt_pos d
        show 1 ≤ 2 * wt d - 1
        omega
    have : wtis (x :: l) = wti x + wtis l := by simp [wtis]
    simp only [List.length_cons]
    omega
def ItOk (H : Hp) (fa la : Addr) (v : V) : It2 → Prop
  | .inl s => ∃ p, v = .ref p ∧ H p = some (.lst [.str s]) ∧ p ≠ fa ∧ p ≠ la
  | .inr d => Dv H v d ∧ ∃ n, val d n = true
/-- tuples stand, lists but for two -/
structure Mv (fa la : Addr) (H H' : Hp) : Prop where
  t : TExt H H'
  l : ∀ p xs, p ≠ fa → p ≠ la → H p = some (.lst xs) → H' p = some (.lst xs)
theorem Mv.trans {fa la : Addr} {H H1 H2 : Hp} (a : Mv fa la H H1) (b : Mv fa la H1 H2) : Mv fa la H H2 := ⟨a.t.trans b.t, fun p xs h1 h2 h => b.l p xs h1 h2 (a.l p xs h1 h2 h)⟩
theorem Mv.new {fa la p : Addr} {H : Hp} {o : HO} (h : H p = none) : Mv fa la H (L2.upd H p o) := ⟨TExt.new h, fun b xs _ _ e => by rw [upd_ne (ne_of_none e h)]; exact e⟩
theorem Mv.same {fa la : Addr} {H H' : Hp} (e : Same H H') : Mv fa la H H' := ⟨TExt.of e, fun b xs _ _ q => e _ _ q⟩
theorem Mv.fa {fa la : Addr} {H : Hp} {xs ys : List V} (h : H fa = some (.lst xs)) : Mv fa la H (L2.upd H fa (.lst ys)) := ⟨TExt.upd h (fun _ z => nomatch z), fun b xs h1 _ e => by rw [upd_ne h1]; exact e⟩
theorem Mv.la {fa la : Addr} {H : Hp} {xs ys : List V} (h : H la = some (.lst xs)) : Mv fa la H (L2.upd H la (.lst ys)) := ⟨TExt.upd h (fun _ z => nomatch z), fun b xs _ h1 e => by rw [upd_ne h1]; exact e⟩
theorem ItOk.mv {fa la : Addr} {H H' : Hp} {v : V} {t : It2} (m : Mv fa la H H') (h : ItOk H fa la v t) : ItOk H' fa la v t := by
  cases t with
  | inl s =>
    obtain ⟨p, e, h1, h2, h3⟩ := h
    exact ⟨p, e, m.l p _ h2 h3 h1, h2, h3⟩
  | inr d =>
    obtain ⟨h1, n, h2⟩ := h
    exact ⟨h1.text m.t (val_pl d n h2), n, h2⟩
def StkOk (H : Hp) (fa la : Addr) (vs : List V) (ts : List It2) : Prop := vs.length = ts.length ∧ ∀ (i : Nat) (v : V) (t : It2), vs[i]? = some v → ts[i]? = some t → ItOk H fa la v t
theorem StkOk.mv {fa la : Addr} {H H' : Hp} {vs : List V} {ts : List It2} (m : Mv fa la H H') (h : StkOk H fa la vs ts) : StkOk H' fa la vs ts := ⟨h.1, fun i v t h1 h2 => (h.2 i v t h1 h2).mv m⟩
theorem StkOk.nil {fa la : Addr} {H : Hp} : StkOk H fa la [] [] := ⟨rfl, fun i v t h => by simp at h⟩
theorem StkOk.push {fa la : Addr} {H : Hp} {vs : List V} {ts : List It2} {v : V} {t : It2} (h : StkOk H fa la vs ts) (k : ItOk H fa la v t) : StkOk H fa la (vs ++ [v]) (ts ++ [t]) := by
  refine ⟨by simp [h.1], fun i x y h1 h2 => ?_⟩
  by_cases hi : i < vs.length
  · rw [List.getElem?_append_left hi] at h1
    rw [List.getElem?_append_left (by rw [← h.1]; exact hi)] at h2
    exact h.2 i x y h1 h2
  · rw [List.getElem?_append_right (by omega)] at h1
    rw [List.getElem?_append_right (by rw [← h.1]; omega)] at h2
    have e : i - ts.length = i - vs.length := by rw [h.1]
    rw [e] at h2
    cases q : i - vs.length with
    | zero =>
      rw [q] at h1 h2
      simp at h1 h2
      subst h1 h2
      exact k
    | succ j =>
      rw [q] at h1
      simp at h1
theorem StkOk.pop {fa la : Addr} {H : Hp} {vs : List V} {ts : List It2} (h : StkOk H fa la vs ts) (hn : vs ≠ []) : ∃ vs' v ts' t, vs = vs' ++ [v] ∧ ts = ts' ++ [t] ∧ StkOk H fa la vs' ts' ∧ ItOk H fa la v t := by
  rcases List.eq_nil_or_concat vs with e | ⟨vs', v, e⟩
  · exact absurd e hn
  rcases List.eq_nil_or_concat ts with e2 | ⟨ts', t, e2⟩
  · have := h.1
    rw [e, e2] at this
    simp at this
  subst e e2
  have hl : vs'.length = ts'.length := by have := h.1; simp at this; exact this
  simp only [List.concat_eq_append] at h ⊢
  refine ⟨vs', v, ts', t, rfl, rfl, ⟨hl, fun i x y h1 h2 => h.2 i x y ?_ ?_⟩, h.2 vs'.length v t (by simp) (by rw [hl]; simp)⟩
  · rw [List.getElem?_append_left (List.getElem?_eq_some_iff.mp h1).1]; exact h1
  · rw [List.getElem?_append_left (List.getElem?_eq_some_iff.mp h2).1]; exact h2
theorem outs_snoc (l : List It2) (t : It2) : outs (l ++ [t]).reverse = out1 t ++ outs l.reverse := by
  simp [outs, List.flatMap_cons]
/-- what is out of the last i of ds, ahead of all of them -/
def tailP (ds : List PyData) (i : Nat) : List Str := match ds.drop (ds.length - i) with
  | [] => []
  | x :: r => (" " : Str) :: pcs.pcsL (x :: r)
theorem tailP_zero (ds : List PyData) : tailP ds 0 = [] := by
  unfold tailP
  rw [show ds.length - 0 = ds.length from rfl, List.drop_length] <;> rfl
theorem pcsL_cons (d : PyData) (ds : List PyData) : pcs.pcsL (d :: ds) = pcs d ++ (match ds with | [] => [] | x :: r => (" " : Str) :: pcs.pcsL (x :: r)) := by
  cases ds <;> rfl
theorem drop_at {ds : List PyData} {i : Nat} {e : PyData} (hi : i < ds.length) (he : ds[ds.length - 1 - i]? = some e) : ds.drop (ds.length - (i + 1)) = e :: ds.drop (ds.length - i) := by
  have e1 : ds.length - (i + 1) = ds.length - 1 - i := by omega
  have e2 : ds.length - i = ds.length - 1 - i + 1 := by omega
  rw [e1, e2]
  obtain ⟨h1, h2⟩ := List.getElem?_eq_some_iff.mp he
  rw [List.drop_eq_getElem_cons h1, h2]
theorem tailP_succ {ds : List PyData} {i : Nat} {e : PyData} (hi : i < ds.length) (he : ds[ds.length - 1 - i]? = some e) : tailP ds (i + 1) = (" " : Str) :: (pcs e ++ tailP ds i) := by
  unfold tailP
  rw [drop_at hi he]
  show (" " : Str) :: pcs.pcsL (e :: ds.drop (ds.length - i)) = _
  rw [pcsL_cons] <;> rfl
theorem tailP_all {ds : List PyData} {e : PyData} {i : Nat} (hi : i + 1 = ds.length) (he : ds[ds.length - 1 - i]? = some e) : pcs.pcsL ds = pcs e ++ tailP ds i := by
  have h := drop_at (by omega) he
  rw [hi, Nat.sub_self, List.drop_zero] at h
  unfold tailP
  conv => lhs; rw [h]
  rw [pcsL_cons] <;> rfl
theorem wts_drop {ds : List PyData} {i : Nat} {e : PyData} (hi : i < ds.length) (he : ds[ds.length - 1 - i]? = some e) : wt.wts (ds.drop (ds.length - (i + 1))) = wt e + wt.wts (ds.drop (ds.length - i)) := by
  rw [drop_at hi he] <;> rfl
end K88
namespace K88
open PySem PySem.Spec PyProof.Rows L2 Evl
theorem scTxt : FnScope ["value", "found", "left", "here", "at", "one"] ["value"] (defScope (top 27)) := ⟨rfl, rfl, rfl, by decide +kernel, rfl, by decide +kernel, by decide +kernel⟩
/-- str(x), x an int or a text -/
theorem call_str2 {X : Cx} : CallR X (.type "str") (fun xs H Q => (∃ i, xs = [.int i] ∧ i.natAbs.log2 < 1920 ∧ Q (.str (toString i)) H) ∨ ∃ a, xs = [.str a] ∧ Q (.str a) H) := fun pins s σ H xs us Q I r h => by
  rcases h with h | h
  · exact call_str_int pins s σ H xs us Q I r h
  · exact SkE.call_str_str pins s σ H xs us Q I r h
/-- the error that is raised with the number 0 -/
def Rais (C : Addr) (E : XK) (H : Hp) : Prop := ∀ (H' : Hp) (dd : Addr), Same H H' → H' dd = none → E (.ref C) (some dd) (L2.upd H' dd (.xd [("line", .int 0)]))
def spText (C : Addr) : Sp := fun vs H Q E => ∃ v d, vs = [v] ∧ Dv H v d ∧ wt d ≤ most ∧ (val d 59 = true → ∀ H', Same H H' → Q (.str (textD d)) H') ∧ (val d 59 = false → Rais C E H)
section
variable {P : Program} {w : World} {K : PySem.W.Frag} {mg : Str → Option Value} {base : Heap} {f f1 f2 f3 C fI : Addr} {fd fd1 fd2 fd3 : FuncData}
abbrev ErrT (P : Program) (K : PySem.W.Frag) (mg : Str → Option Value) (C fI : Addr) : Prop := PySem.ErrX.ErrTxt P K mg "NoText" "line" C fI
theorem ifT {c : Bool} {A B : Prop} (hc : c = true) (h : A) : if c = true then A else B := by
  rw [hc]
  exact iteT h
theorem ifF {c : Bool} {A B : Prop} (hc : c = false) (h : B) : if c = true then A else B := by
  rw [hc]
  exact iteF h
theorem wtis_le_drop (ds : List PyData) (n : Nat) : wt.wts (ds.drop n) ≤ wt.wts ds := by
  have := wts_app (ds.take n) (ds.drop n)
  rw [List.take_append_drop] at this
  omega
theorem most_line9 {n : Nat} (h : n ≤ 16000000) : n ≤ sizeLine := by rw [sizeLine_eq]; omega
theorem most_line8 {n : Nat} (h : n ≤ 8000000) : n < sizeLine := by rw [sizeLine_eq]; omega
theorem ok_text (G : Gl8 mg) (T : ErrT P K mg C fI) (F : FnP K "value_text" 27 f fd) (F1 : DefAt K mg "is_word" 24 f1 fd1) (F2 : DefAt K mg "is_figure" 25 f2 fd2) (F3 : DefAt K mg "is_value" 26 f3 fd3) : FnOk P w K mg base (L2.CX P w) 3 f fd ["value"] (spText C) := by
  have G3 : FnOk P w K mg base CX0 2 f3 fd3 ["thing"] spVal := ok_val G F3.fn F1 F2
  have b3 : Binds K fd3 ["thing"] [] := bind1 F3.fn fun _ _ _ _ _ _ _ => rfl
  refine F.ok scTxt (fun vs H Q E h => ?_) (fun cdv A outer s H vs Q E hr h => ⟨_, pss_cons (ps_if (pt_not (pt_val (pe_call G3 hr rfl F3.g F3.fn.kp b3 .nil pass0 (pa_cons (pv 0) pa_nil))))
      (pss_one (ps_raise rfl (takes_of rfl rfl rfl rfl) (pmk_err T PySem.ErrX.bound_line (by decide) (by decide) (by decide) (by decide) (by decide) hr (pa_cons pe_str (pa_cons pe_int pa_nil)) rfl (by decide)))) pss_nil)
    (PSs.nox (pss_cons (ps_par (i := 1) (j := 2) (by rfl) scTxt.nd rfl rfl (by decide) rfl rfl (pa_cons (pe_lst pa_nil) (pa_cons (pe_lst (pa_cons (pv 0) pa_nil)) pa_nil)) (by rfl))
    (pss_cons (ps_while PassesOwn.never (pt_cmpR (op_nE hr.units0) (pv 2) (pe_lst pa_nil) (nomark _))
      (pss_cons (ps_set (i := 3) scTxt.nd rfl (Or.inl rfl) (pe_bm0 PySem.F.plainAttrs_list PySem.F.slot_list_pop PySem.F.type_list_pop mt_pop (pv 2)))
      (pss_one (ps_if (pt_val (pe_callB call_isi rfl G.isi (by decide +kernel) (pa_cons (pv 3) (pa_cons (pe_bltn (v := .ty "list") (u := .type "list") rfl G.list (by decide +kernel) rfl) pa_nil))))
        (pss_one (ps_expr (pe_bm PySem.F.plainAttrs_list PySem.F.slot_list_append PySem.F.type_list_append mt_append (pv 1) (pa_cons (pe_ix ix_list (pv 3) pe_int (fun _ _ => rfl)) pa_nil))))
        (pss_one (ps_if (pt_val (pe_callB call_isi rfl G.isi (by decide +kernel) (pa_cons (pv 3) (pa_cons (pe_bltn (v := .ty "tuple") (u := .type "tuple") rfl G.tuple (by decide +kernel) rfl) pa_nil))))
          (pss_cons (ps_expr (pe_bm PySem.F.plainAttrs_list PySem.F.slot_list_append PySem.F.type_list_append mt_append (pv 2) (pa_cons (pe_lst (pa_cons pe_str pa_nil)) pa_nil)))
          (pss_cons (ps_for PassesOwn.never rfl (pi_enumR rfl G.enumerate rfl G.reversed (pv 3)) (pg_tup rfl (pgs_cons (pg_name (i := 4) scTxt.nd rfl (Or.inl rfl)) (pgs_cons (pg_name (i := 5) scTxt.nd rfl (Or.inl rfl)) pgs_nil)))
            (pss_one (ps_expr (pe_bm PySem.F.plainAttrs_list PySem.F.slot_list_extend PySem.F.type_list_extend mt_extend (pv 2) (pa_cons (pe_ifExp (pt_cmpR op_eq (pv 4) (pe_op op_sub (pe_callB call_len_seq (by rfl) G.len PySem.boot_len (pa_cons (pv 3) pa_nil)) pe_int) (nomark _))
              (pe_lst (pa_cons (pv 5) pa_nil)) (pe_lst (pa_cons (pv 5) (pa_cons (pe_lst (pa_cons pe_str pa_nil)) pa_nil)))) pa_nil)))))
          (pss_one (ps_expr (pe_bm PySem.F.plainAttrs_list PySem.F.slot_list_append PySem.F.type_list_append mt_append (pv 2) (pa_cons (pe_lst (pa_cons pe_str pa_nil)) pa_nil))))))
          (pss_one (ps_expr (pe_bm PySem.F.plainAttrs_list PySem.F.slot_list_append PySem.F.type_list_append mt_append (pv 1) (pa_cons (pe_ifExp (pt_cmpR op_isN (pv 3) pe_non (nomark _)) pe_str
            (pe_callTy call_str2 (by rfl) G.str (by decide +kernel) (pa_cons (pv 3) pa_nil))) pa_nil))))))))))
    (pss_one (ps_ret (pe_join pe_str (pv 1))))))), ?_⟩)
  · obtain ⟨v, d, rfl, _⟩ := h
    rfl
  obtain ⟨v, d, rfl, hv, hw, hQ, hE⟩ := h
  refine ⟨v, rfl, v, d, rfl, hv, hw, fun H1 s1 => ⟨_, rfl, ?_⟩⟩
  cases hval : val d 59 with
  | false =>
    refine iteT ?_
    exact ⟨_, _, rfl, fun dd hdd => hE hval H1 dd s1 hdd⟩
  | true =>
    refine iteF ?_
    refine ⟨by show 0 ≤ sizeLine; decide, fun fa hfa => ⟨v, rfl, by show 1 ≤ sizeLine; decide, fun la hla => ?_⟩⟩
    refine ⟨_, _, rfl, ?_⟩
    have nf : la ≠ fa := fun e => by rw [e, upd_same] at hla; cases hla
    have hla0 : H1 la = none := by rw [upd_ne nf] at hla; exact hla
    have iv0 : ∃ (found : List Str) (stk : List V) (ts : List It2) (v3 v4 v5 : Option V), [some v, some (.ref fa), some (.ref la), none, none, none] = [some v, some (V.ref fa), some (.ref la), v3, v4, v5] ∧ Same H1 (L2.upd (L2.upd H1 fa (.lst [])) la (.lst [v])) ∧ (L2.upd (L2.upd H1 fa (.lst [])) la (.lst [v])) fa = some (.lst (found.map V.str)) ∧ (L2.upd (L2.upd H1 fa (.lst [])) la (.lst [v])) la = some (.lst stk) ∧ StkOk (L2.upd (L2.upd H1 fa (.lst [])) la (.lst [v])) fa la stk ts ∧ found ++ outs ts.reverse = pcs d ∧ found.length + wtis ts ≤ 2 * wt d := by
      have m : Mv fa la H1 (L2.upd (L2.upd H1 fa (.lst [])) la (.lst [v])) := (Mv.new hfa).trans (Mv.new hla)
      refine ⟨[], [v], [.inr d], none, none, none, rfl, same_upd (same_new hfa) hla0, ?_, upd_same, ?_, ?_, ?_⟩
      · rw [upd_ne (Ne.symm nf)]; exact upd_same
      · exact StkOk.push (StkOk.nil (fa := fa) (la := la)) (v := v) (t := .inr d) ⟨((hv.same s1).text m.t (val_pl d 59 hval)), 59, hval⟩
      · simp [outs, out1]
      · simp [wtis, wti]
    refine ⟨fun m σ H2 => ∃ (found : List Str) (stk : List V) (ts : List It2) (v3 v4 v5 : Option V), m = wtis ts ∧ σ = [some v, some (V.ref fa), some (.ref la), v3, v4, v5] ∧ Same H1 H2 ∧ H2 fa = some (.lst (found.map V.str)) ∧ H2 la = some (.lst stk) ∧ StkOk H2 fa la stk ts ∧ found ++ outs ts.reverse = pcs d ∧ found.length + wtis ts ≤ 2 * wt d, ?_, ?_⟩
    · obtain ⟨found, stk, ts, v3, v4, v5, h1, h2⟩ := iv0
      exact ⟨_, found, stk, ts, v3, v4, v5, rfl, h1, h2⟩
    rintro m σ H2 ⟨found, stk, ts, v3, v4, v5, rfl, rfl, s2, hf2, hl2, ok, eo, ew⟩
    refine ⟨_, rfl, by show 0 ≤ sizeLine; decide, fun p hp => ?_⟩
    have npl : la ≠ p := ne_of_none hl2 hp
    have npf : fa ≠ p := ne_of_none hf2 hp
    refine ⟨la, p, stk, rfl, rfl, npl, SqL.of (by rw [upd_ne npl]; exact hl2), SqL.of upd_same, _, rfl, ?_⟩
    have mv3 : Mv fa la H2 (L2.upd H2 p (.lst [])) := Mv.new hp
    have s3 : Same H1 (L2.upd H2 p (.lst [])) := s2.trans (same_new hp)
    have hf3 : (L2.upd H2 p (.lst [])) fa = some (.lst (found.map V.str)) := by rw [upd_ne npf]; exact hf2
    have hl3 : (L2.upd H2 p (.lst [])) la = some (.lst stk) := by rw [upd_ne npl]; exact hl2
    have ok := ok.mv mv3
    generalize L2.upd H2 p (.lst []) = H3 at mv3 s3 hf3 hl3 ok ⊢
    clear hf2 hl2 s2 mv3 hp npl npf
    have wt2 : 2 * wt d ≤ 8000000 := by unfold most at hw; omega
    cases hst : stk with
    | nil =>
      subst hst
      have et : ts = [] := List.eq_nil_of_length_eq_zero ok.1.symm
      subst et
      refine iteF ?_
      have eo : found = pcs d := by simpa [outs] using eo
      refine ⟨⟨_, rfl⟩, _, rfl, Str.empty, fa, found, rfl, rfl, .inl (SqL.of hf3), ?_, ?_⟩
      · have := lens_pcs d 59 hval
        rw [eo]
        have e0 : (Str.empty : Str).length = 0 := by decide
        rw [e0, Nat.mul_zero]
        show lens (pcs d) + 0 ≤ _
        unfold most at hw
        omega
      · rw [eo]
        exact hQ hval _ (s1.trans s3)
    | cons c r =>
      obtain ⟨vs', x, ts', t, e1, e2, ok', okx⟩ := ok.pop (by rw [hst]; simp)
      rw [← hst, e1]
      subst e1 e2
      refine ifT (show (!(vs' ++ [x]).isEmpty) = true by simp) ?_
      refine ⟨fun σ' H' => ∃ m', m' < wtis (ts' ++ [t]) ∧ ∃ (found : List Str) (stk : List V) (ts : List It2) (v3 v4 v5 : Option V), m' = wtis ts ∧ σ' = [some v, some (V.ref fa), some (.ref la), v3, v4, v5] ∧ Same H1 H' ∧ H' fa = some (.lst (found.map V.str)) ∧ H' la = some (.lst stk) ∧ StkOk H' fa la stk ts ∧ found ++ outs ts.reverse = pcs d ∧ found.length + wtis ts ≤ 2 * wt d, fun _ _ z => z, ?_⟩
      rw [outs_snoc] at eo
      rw [wtis_app, wtis_one] at ew
      rw [wtis_app, wtis_one]
      refine ⟨_, rfl, .inl ⟨rfl, _, SqL.of hl3⟩, la, _, x, rfl, rfl, hl3, by simp, ?_⟩
      have ed : (vs' ++ [x]).dropLast = vs' := by simp
      rw [ed]
      have mv4 : Mv fa la H3 (L2.upd H3 la (.lst vs')) := Mv.la hl3
      have s4 : Same H1 (L2.upd H3 la (.lst vs')) := same_upd s3 hla0
      have hf4 : (L2.upd H3 la (.lst vs')) fa = some (.lst (found.map V.str)) := by rw [upd_ne (Ne.symm nf)]; exact hf3
      have hl4 : (L2.upd H3 la (.lst vs')) la = some (.lst vs') := upd_same
      have ok' := ok'.mv mv4
      have okx := okx.mv mv4
      generalize L2.upd H3 la (.lst vs') = H4 at mv4 s4 hf4 hl4 ok' okx ⊢
      clear hf3 hl3 s3 mv4 ok ed hst
      have lenf : found.length < sizeLine := most_line8 (by omega)
      have lens' : vs'.length ≤ 2 * wt d := by
        have := len_wtis ts'
        rw [ok'.1]; omega
      have wpos : 1 ≤ wti t := by have := len_wtis [t]; simpa [wtis_one] using this
      cases t with
      | inl z =>
        obtain ⟨q, rfl, hq, nq1, nq2⟩ := okx
        refine ⟨_, rfl, _, _, _, _, true, rfl, .ty _, .base (.lst hq), kit_ty (kit_yes0 "list" (by simp)), true, rfl, iteT ?_⟩
        refine ⟨_, rfl, .inl ⟨rfl, _, SqL.of hf4⟩, _, rfl, q, _, _, _, rfl, rfl, SqL.of hq, atI_nat (j := 0) (v := .str z) rfl, fa, _, _, rfl, rfl, hf4, by simpa using lenf, ?_⟩
        refine ⟨_, ?_, found ++ [z], vs', ts', _, _, _, rfl, rfl, same_upd s4 hfa, ?_, ?_, ok'.mv (Mv.fa hf4), ?_, ?_⟩
        · show wtis ts' < wtis ts' + 1; omega
        · rw [upd_same]; simp
        · rw [upd_ne nf]; exact hl4
        · simpa [out1] using eo
        · have : wti (.inl z : It2) = 1 := rfl
          simp only [List.length_append, List.length_cons, List.length_nil]
          omega
      | inr e =>
        obtain ⟨dx, n, hn⟩ := okx
        have wei : wti (.inr e : It2) = 2 * wt e - 1 := rfl
        rw [wei] at ew wpos ⊢
        have nolist : tyD e ≠ "list" := by
          cases e with
          | list es => cases hn
          | _ => simp [tyD]
        refine ⟨_, rfl, _, _, _, _, false, rfl, .ty _, dv_ty dx, kit_ty (kit_no (by simp) nolist), false, rfl, iteF ?_⟩
        by_cases ht : tyD e = "tuple"
        · refine ⟨_, rfl, _, _, _, _, true, rfl, .ty _, dv_ty dx, kit_ty (kit_yes (by simp) ht), true, rfl, iteT ?_⟩
          obtain ⟨a, xs, ds, rfl, rfl, ha, dxs⟩ := dv_tup dx ht
          obtain ⟨k, rfl⟩ : ∃ k, n = k + 1 := by
            cases n with
            | zero => cases hn
            | succ k => exact ⟨k, rfl⟩
          have hvs : val.vals ds k = true := hn
          have wds : wt (.tuple ds) = 3 + wt.wts ds := rfl
          have lds := len_wts ds
          refine ⟨_, rfl, .inl ⟨rfl, _, SqL.of hl4⟩, by show 1 ≤ sizeLine; decide, fun p hp => ⟨la, vs', _, rfl, rfl, ?_, most_line8 (by omega), ?_⟩⟩
          · rw [upd_ne (ne_of_none hl4 hp)]; exact hl4
          have pa : Mv fa la H4 (L2.upd H4 p (.lst [.str ")"])) := Mv.new hp
          have nlp : la ≠ p := ne_of_none hl4 hp
          have nfp : fa ≠ p := ne_of_none hf4 hp
          have h1 : (L2.upd H4 p (.lst [.str ")"])) la = some (.lst vs') := by rw [upd_ne nlp]; exact hl4
          have pb : Mv fa la (L2.upd H4 p (.lst [.str ")"])) (L2.upd (L2.upd H4 p (.lst [.str ")"])) la (.lst (vs' ++ [.ref p]))) := Mv.la h1
          have s5 : Same H1 (L2.upd (L2.upd H4 p (.lst [.str ")"])) la (.lst (vs' ++ [.ref p]))) := same_upd (s4.trans (same_new hp)) hla0
          have hf5 : (L2.upd (L2.upd H4 p (.lst [.str ")"])) la (.lst (vs' ++ [.ref p]))) fa = some (.lst (found.map V.str)) := by rw [upd_ne (Ne.symm nf), upd_ne nfp]; exact hf4
          have hl5 : (L2.upd (L2.upd H4 p (.lst [.str ")"])) la (.lst (vs' ++ [.ref p]))) la = some (.lst (vs' ++ [.ref p])) := upd_same
          have hp5 : (L2.upd (L2.upd H4 p (.lst [.str ")"])) la (.lst (vs' ++ [.ref p]))) p = some (.lst [.str ")"]) := by rw [upd_ne (Ne.symm nlp)]; exact upd_same
          have ok5 : StkOk (L2.upd (L2.upd H4 p (.lst [.str ")"])) la (.lst (vs' ++ [.ref p]))) fa la (vs' ++ [.ref p]) (ts' ++ [.inl ")"]) := (ok'.mv (pa.trans pb)).push ⟨p, rfl, hp5, Ne.symm nfp, Ne.symm nlp⟩
          have ha5 := (pa.trans pb).t a xs ha
          have dx5 : ∀ (i : Nat) (x : V) (e : PyData), xs[i]? = some x → ds[i]? = some e → Dv (L2.upd (L2.upd H4 p (.lst [.str ")"])) la (.lst (vs' ++ [.ref p]))) x e := fun i x e q1 q2 => (dxs.2 i x e q1 q2).text (pa.trans pb).t (val_pl e k (vals_get hvs q2))
          generalize L2.upd (L2.upd H4 p (.lst [.str ")"])) la (.lst (vs' ++ [.ref p])) = H5 at s5 hf5 hl5 hp5 ok5 ha5 dx5 ⊢
          clear pa pb h1 hp hf4 hl4 s4
          refine ⟨_, rfl, a, xs, rfl, .inl (.inl ha5), for_IteR (K := K) (a := a) (xs := xs) (fun i σ H' => ∃ (stk : List V) (ts : List It2) (v4 v5 : Option V), σ = [some v, some (V.ref fa), some (.ref la), some (.ref a), v4, v5] ∧ Same H1 H' ∧ TExt H5 H' ∧ H' fa = some (.lst (found.map V.str)) ∧ H' la = some (.lst stk) ∧ StkOk H' fa la stk ts ∧ outs ts.reverse = (if i = ds.length then pcs.pcsL ds else tailP ds i) ++ ((")" : Str) :: outs ts'.reverse) ∧ wtis ts ≤ wtis ts' + 1 + 2 * wt.wts (ds.drop (ds.length - i))) ?_ (fun i σ H' ⟨_, _, _, _, _, _, tx, _⟩ => .inl (.inl (tx _ _ ha5))) ?_ ?_⟩
          · refine ⟨_, _, _, _, rfl, s5, TExt.refl _, hf5, hl5, ok5, ?_, ?_⟩
            · rw [outs_snoc]
              have : (if 0 = ds.length then pcs.pcsL ds else tailP ds 0) = [] := by
                split
                · rename_i h0
                  have := List.eq_nil_of_length_eq_zero h0.symm
                  rw [this] <;> rfl
                · exact tailP_zero ds
              rw [this] <;> rfl
            · rw [wtis_app, wtis_one]
              show wtis ts' + 1 ≤ _
              omega
          · rintro i x T σ H' hi hx hT ⟨stk, ts, v4, v5, rfl, s6, t6, hf6, hl6, ok6, eo6, ew6⟩
            have hi2 : i < ds.length := by rw [← dxs.1]; exact hi
            rw [dxs.1] at hx
            have ⟨e, he⟩ : ∃ e, ds[ds.length - 1 - i]? = some e := ⟨_, List.getElem?_eq_getElem (by omega)⟩
            have te : Dv H5 x e := dx5 _ x e hx he
            have pe := val_pl e k (vals_get hvs he)
            have mT : Mv fa la H' (L2.upd H' T (.tup [.int (i : Nat), x])) := Mv.new hT
            have s7 : Same H1 (L2.upd H' T (.tup [.int (i : Nat), x])) := s6.trans (same_new hT)
            have hf7 : (L2.upd H' T (.tup [.int (i : Nat), x])) fa = some (.lst (found.map V.str)) := by rw [upd_ne (ne_of_none hf6 hT)]; exact hf6
            have hl7 : (L2.upd H' T (.tup [.int (i : Nat), x])) la = some (.lst stk) := by rw [upd_ne (ne_of_none hl6 hT)]; exact hl6
            have t7 : TExt H5 (L2.upd H' T (.tup [.int (i : Nat), x])) := t6.trans mT.t
            have ok7 := ok6.mv mT
            have wd := wts_drop hi2 he
            have dw := wtis_le_drop ds (ds.length - (i + 1))
            have we := wt_pos e
            have lk : stk.length ≤ 8000000 := by
              have := len_wtis ts
              rw [ok6.1]
              have : wt.wts (ds.drop (ds.length - i)) ≤ wt.wts ds := wtis_le_drop ds _
              omega
            refine ⟨T, _, rfl, .inl (.inl upd_same), rfl, ?_⟩
            refine ⟨_, _, rfl, _, _, rfl, rfl, ?_⟩
            generalize L2.upd H' T (.tup [.int (i : Nat), x]) = H7 at mT s7 hf7 hl7 t7 ok7 ⊢
            refine ⟨_, rfl, .inl ⟨rfl, _, SqL.of hl7⟩, ?_⟩
            refine ⟨_, rfl, _, rfl, a, xs, rfl, .inr (.inl (.inl (t7 _ _ ha5))), _, _, rfl, rfl, rfl, _, rfl, ?_⟩
            have fin : ∀ H9 (stk9 : List V) (ts9 : List It2), Same H1 H9 → TExt H5 H9 → H9 fa = some (.lst (found.map V.str)) → H9 la = some (.lst stk9) → StkOk H9 fa la stk9 ts9 → outs ts9.reverse = (if i + 1 = ds.length then pcs.pcsL ds else tailP ds (i + 1)) ++ ((")" : Str) :: outs ts'.reverse) → wtis ts9 ≤ wtis ts' + 1 + 2 * wt.wts (ds.drop (ds.length - (i + 1))) →
                ∃ (stk : List V) (ts : List It2) (v4 v5 : Option V), [some v, some (V.ref fa), some (.ref la), some (.ref a), some (.int (i : Nat)), some x] = [some v, some (V.ref fa), some (.ref la), some (.ref a), v4, v5] ∧ Same H1 H9 ∧ TExt H5 H9 ∧ H9 fa = some (.lst (found.map V.str)) ∧ H9 la = some (.lst stk) ∧ StkOk H9 fa la stk ts ∧ outs ts.reverse = (if i + 1 = ds.length then pcs.pcsL ds else tailP ds (i + 1)) ++ ((")" : Str) :: outs ts'.reverse) ∧ wtis ts ≤ wtis ts' + 1 + 2 * wt.wts (ds.drop (ds.length - (i + 1))) := fun H9 stk9 ts9 q1 q2 q3 q4 q5 q6 q7 => ⟨stk9, ts9, _, _, rfl, q1, q2, q3, q4, q5, q6, q7⟩
            have dx7 : Dv H7 x e := te.text t7 pe
            have ex : ItOk H7 fa la x (.inr e) := ⟨dx7, k, vals_get hvs he⟩
            have ni : ¬ i = ds.length := by omega
            rw [if_neg ni] at eo6
            have wie : wti (.inr e : It2) = 2 * wt e - 1 := rfl
            by_cases hl : i + 1 = ds.length
            · refine ifT (decide_eq_true (show V.int (i : Nat) = V.int ((xs.length : Int) - 1) from congrArg V.int (by rw [dxs.1]; omega))) ?_
              refine ⟨_, rfl, by show 1 ≤ sizeLine; decide, fun r hr => ?_⟩
              have nl : la ≠ r := ne_of_none hl7 hr
              have nf' : fa ≠ r := ne_of_none hf7 hr
              have mr : Mv fa la H7 (L2.upd H7 r (.lst [x])) := Mv.new hr
              have hl8 : (L2.upd H7 r (.lst [x])) la = some (.lst stk) := by rw [upd_ne nl]; exact hl7
              have m2 : Mv fa la (L2.upd H7 r (.lst [x])) (L2.upd (L2.upd H7 r (.lst [x])) la (.lst (stk ++ [x]))) := Mv.la hl8
              refine ⟨la, r, stk, [x], rfl, rfl, hl8, upd_same, ?_, ?_⟩
              · exact most_line9 (by simp; omega)
              refine fin _ (stk ++ [x]) (ts ++ [.inr e]) (same_upd (s7.trans (same_new hr)) hla0) (t7.trans (mr.trans m2).t) ?_ upd_same ((ok7.mv (mr.trans m2)).push (ex.mv (mr.trans m2))) ?_ ?_
              · rw [upd_ne (Ne.symm nf), upd_ne nf']; exact hf7
              · rw [outs_snoc, eo6, if_pos hl, tailP_all hl he]
                simp [out1]
              · rw [wtis_app, wtis_one, wie, wd]
                omega
            · refine ifF (decide_eq_false (show ¬ V.int (i : Nat) = V.int ((xs.length : Int) - 1) from fun z => hl (by injection z with z; rw [dxs.1] at z; omega))) ?_
              refine ⟨_, rfl, by show 1 ≤ sizeLine; decide, fun r hr => ?_⟩
              have nl : la ≠ r := ne_of_none hl7 hr
              have nf' : fa ≠ r := ne_of_none hf7 hr
              have mr : Mv fa la H7 (L2.upd H7 r (.lst [.str " "])) := Mv.new hr
              have hl8 : (L2.upd H7 r (.lst [.str " "])) la = some (.lst stk) := by rw [upd_ne nl]; exact hl7
              refine ⟨by show 2 ≤ sizeLine; decide, fun r2 hr2 => ?_⟩
              have nl2 : la ≠ r2 := ne_of_none hl8 hr2
              have nf2 : fa ≠ r2 := fun z => by rw [← z, upd_ne nf', hf7] at hr2; cases hr2
              have nrr : r ≠ r2 := fun z => by rw [← z, upd_same] at hr2; cases hr2
              have mr2 : Mv fa la (L2.upd H7 r (.lst [.str " "])) (L2.upd (L2.upd H7 r (.lst [.str " "])) r2 (.lst [x, .ref r])) := Mv.new hr2
              have hl9 : (L2.upd (L2.upd H7 r (.lst [.str " "])) r2 (.lst [x, .ref r])) la = some (.lst stk) := by rw [upd_ne nl2]; exact hl8
              have m2 : Mv fa la (L2.upd (L2.upd H7 r (.lst [.str " "])) r2 (.lst [x, .ref r])) (L2.upd (L2.upd (L2.upd H7 r (.lst [.str " "])) r2 (.lst [x, .ref r])) la (.lst (stk ++ [x, .ref r]))) := Mv.la hl9
              have mm := (mr.trans mr2).trans m2
              refine ⟨la, r2, stk, [x, .ref r], rfl, rfl, hl9, upd_same, ?_, ?_⟩
              · exact most_line9 (by simp; omega)
              have okk : StkOk (L2.upd (L2.upd (L2.upd H7 r (.lst [.str " "])) r2 (.lst [x, .ref r])) la (.lst (stk ++ [x, .ref r]))) fa la (stk ++ [x, .ref r]) (ts ++ [.inr e] ++ [.inl " "]) := by
                have q := ((ok7.mv mm).push (ex.mv mm)).push (v := .ref r) (t := .inl " ") ⟨r, rfl, by rw [upd_ne (Ne.symm nl), upd_ne nrr]; exact upd_same, Ne.symm nf', Ne.symm nl⟩
                rw [List.append_assoc] at q
                exact q
              refine fin _ (stk ++ [x, .ref r]) (ts ++ [.inr e] ++ [.inl " "]) (same_upd ((s7.trans (same_new hr)).trans (same_new hr2)) hla0) (t7.trans mm.t) ?_ upd_same okk ?_ ?_
              · rw [upd_ne (Ne.symm nf), upd_ne nf2, upd_ne nf']; exact hf7
              · rw [outs_snoc, outs_snoc, eo6, if_neg hl, tailP_succ hi2 he]
                simp [out1]
              · rw [wtis_app, wtis_app, wtis_one, wtis_one, wie, wd]
                show _ + 1 ≤ _
                omega
          · rintro σ H' ⟨stk, ts, v4, v5, rfl, s6, t6, hf6, hl6, ok6, eo6, ew6⟩
            rw [dxs.1, if_pos rfl] at eo6
            rw [dxs.1, Nat.sub_self, List.drop_zero] at ew6
            have lk : stk.length ≤ 8000000 := by
              have := len_wtis ts
              rw [ok6.1]
              omega
            refine ⟨_, rfl, .inl ⟨rfl, _, SqL.of hl6⟩, by show 1 ≤ sizeLine; decide, fun r hr => ?_⟩
            have nl : la ≠ r := ne_of_none hl6 hr
            have nf' : fa ≠ r := ne_of_none hf6 hr
            have mr : Mv fa la H' (L2.upd H' r (.lst [.str "("])) := Mv.new hr
            have hl8 : (L2.upd H' r (.lst [.str "("])) la = some (.lst stk) := by rw [upd_ne nl]; exact hl6
            have m2 : Mv fa la (L2.upd H' r (.lst [.str "("])) (L2.upd (L2.upd H' r (.lst [.str "("])) la (.lst (stk ++ [.ref r]))) := Mv.la hl8
            refine ⟨la, stk, _, rfl, rfl, hl8, most_line8 lk, ?_⟩
            refine ⟨_, ?_, found, stk ++ [.ref r], ts ++ [.inl "("], _, _, _, rfl, rfl, same_upd (s6.trans (same_new hr)) hla0, ?_, upd_same, (ok6.mv (mr.trans m2)).push (v := .ref r) (t := .inl "(") ⟨r, rfl, by rw [upd_ne (Ne.symm nl)]; exact upd_same, Ne.symm nf', Ne.symm nl⟩, ?_, ?_⟩
            · rw [wtis_app, wtis_one]
              show _ + 1 < _
              omega
            · rw [upd_ne (Ne.symm nf), upd_ne nf']; exact hf6
            · rw [outs_snoc, eo6, ← eo]
              simp [out1, pcs]
            · rw [wtis_app, wtis_one]
              show _ + (_ + 1) ≤ _
              omega
        · refine ⟨_, rfl, _, _, _, _, false, rfl, .ty _, dv_ty dx, kit_ty (kit_no (by simp) ht), false, rfl, iteF ?_⟩
          refine ⟨_, rfl, .inl ⟨rfl, _, SqL.of hf4⟩, _, rfl, rfl, _, rfl, ?_⟩
          have fin : ∀ z : Str, out1 (.inr e) = [z] → ∀ H', H' = L2.upd H4 fa (.lst (found.map V.str ++ [.str z])) → ∃ m', m' < wtis ts' + (2 * wt e - 1) ∧ ∃ (found : List Str) (stk : List V) (ts : List It2) (w3 w4 w5 : Option V), m' = wtis ts ∧ [some v, some (V.ref fa), some (.ref la), some x, v4, v5] = [some v, some (V.ref fa), some (.ref la), w3, w4, w5] ∧ Same H1 H' ∧ H' fa = some (.lst (found.map V.str)) ∧ H' la = some (.lst stk) ∧ StkOk H' fa la stk ts ∧ found ++ outs ts.reverse = pcs d ∧ found.length + wtis ts ≤ 2 * wt d := fun z hz H' hH => by
            subst hH
            refine ⟨_, ?_, found ++ [z], vs', ts', some x, v4, v5, rfl, rfl, same_upd s4 hfa, ?_, ?_, ok'.mv (Mv.fa hf4), ?_, ?_⟩
            · omega
            · rw [upd_same]; simp
            · rw [upd_ne nf]; exact hl4
            · rw [← eo, hz]; simp
            · simp only [List.length_append, List.length_cons, List.length_nil]
              omega
          cases e with
          | none =>
            cases dx
            refine iteT ⟨fa, _, _, rfl, rfl, hf4, by simpa using lenf, ?_⟩
            exact fin "-" rfl _ rfl
          | int z =>
            cases dx
            refine iteF ⟨_, rfl, .inl ⟨z, rfl, ?_, fa, _, _, rfl, rfl, hf4, by simpa using lenf, fin _ rfl _ rfl⟩⟩
            have h1 := of_decide_eq_true (show figI z = true from hn)
            have h2 : z.natAbs < 2 ^ 1920 := by
              have : z.natAbs < 10 ^ 12 := by split at h1 <;> omega
              exact Nat.lt_of_lt_of_le this (by decide)
            by_cases h0 : z.natAbs = 0
            · rw [h0]; decide
            · exact (Nat.log2_lt h0).mpr h2
          | str z =>
            cases dx
            exact iteF ⟨_, rfl, .inr ⟨z, rfl, fa, _, _, rfl, rfl, hf4, by simpa using lenf, fin _ rfl _ rfl⟩⟩
          | tuple es => exact absurd rfl ht
          | bool b => cases hn
          | list es => cases hn
          | dict es => cases hn
end
end K88
/-! A text in pieces. -/
namespace K88
open PySem PySem.Spec PyProof.Rows L2 Evl
abbrev SX (l : List Nat) : Str := ⟨l.toArray⟩
def spec (c : Nat) : Bool := decide (c ∈ [40, 41, 32])
def sp : List Nat → List Nat → List (List Nat)
  | acc, [] => if acc = [] then [] else [acc]
  | acc, c :: r => if spec c = true then (if acc = [] then [] else [acc]) ++ [c] :: sp [] r else sp (acc ++ [c]) r
def piecesS (s : Str) : List Str := (sp [] s.cps.toList).map SX
theorem sp_flush {acc r : List Nat} (h : acc ≠ []) (hr : ∀ c, r.head? = some c → spec c = true) : sp acc r = acc :: sp [] r := by
  cases r with
  | nil => simp [sp, h]
  | cons c r =>
    have := hr c rfl
    simp [sp, h, this]
theorem sp_spec {c : Nat} {r : List Nat} (h : spec c = true) : sp [] (c :: r) = [c] :: sp [] r := by simp [sp, h]
theorem sp_plain {acc r : List Nat} {c : Nat} (h : spec c = false) : sp acc (c :: r) = sp (acc ++ [c]) r := by simp [sp, h]
theorem cut_nat {l : List Nat} {i j : Nat} (hi : i ≤ l.length) (hj : j ≤ l.length) : cutS (SX l) (some (i : Int)) (some (j : Int)) = SX ((l.drop i).take (j - i)) := by
  unfold cutS
  rw [HT.sIx_nat, HT.sIx_nat]
  have : (SX l).length = l.length := by simp [Str.length]
  rw [this, Nat.min_eq_left hi, Nat.min_eq_left hj]
theorem sp_len : ∀ (l acc : List Nat), (sp acc l).length ≤ l.length + (if acc = [] then 0 else 1)
  | [], acc => by
    simp only [sp]
    split <;> simp
  | c :: r, acc => by
    simp only [sp]
    split
    · have := sp_len r []
      rw [if_pos rfl] at this
      simp only [List.length_append, List.length_cons]
      split <;> simp <;> omega
    · have := sp_len r (acc ++ [c])
      simp only [List.length_cons]
      split at this <;> split <;> omega
end K88
namespace K88
open PySem PySem.Spec PyProof.Rows L2 Evl
theorem scPcs : FnScope ["text", "found", "at", "end"] ["text"] (defScope (top 28)) := ⟨rfl, rfl, rfl, by decide +kernel, rfl, by decide +kernel, by decide +kernel⟩
/-- a text in, a new list of texts out -/
def spStrL (f : Str → List Str) : Sp := fun vs H Q E => ∃ s : Str, vs = [.str s] ∧ s.length ≤ 1000000 ∧ ∀ H' p, Same H H' → H p = none → H' p = some (.lst ((f s).map V.str)) → Q (.ref p) H'
abbrev spPcs : Sp := spStrL piecesS
section
variable {P : Program} {w : World} {K : PySem.W.Frag} {mg : Str → Option Value} {base : Heap} {f : Addr} {fd : FuncData}
theorem ok_pcs (G : Gl8 mg) (F : FnP K "pieces_of" 28 f fd) : FnOk P w K mg base CX0 1 f fd ["text"] spPcs := by
  refine F.ok scPcs (fun vs H Q E h => ?_) (fun cdv A outer s H vs Q E hr h => ⟨_, PSs.nox (pss_cons (ps_par (i := 1) (j := 2) (by rfl) scPcs.nd rfl rfl (by decide) rfl rfl (pa_cons (pe_lst pa_nil) (pa_cons pe_int pa_nil)) (by rfl))
    (pss_cons (ps_while PassesOwn.never (pt_cmpR op_lt (pv 2) (pe_callB call_len_str (by rfl) G.len PySem.boot_len (pa_cons (pv 0) pa_nil)) (nomark _))
      (pss_cons (ps_set (i := 3) scPcs.nd rfl (Or.inl rfl) (pe_op op_add (pv 2) pe_int))
      (pss_cons (ps_if (pt_cmpR op_notIn_sign (pe_item_str (pv 0) (pv 2) (fun _ _ => rfl)) pe_str rfl)
        (pss_one (ps_while PassesOwn.never (PW.pt (pw_and (pt_cmpR op_lt (pv 3) (pe_callB call_len_str (by rfl) G.len PySem.boot_len (pa_cons (pv 0) pa_nil)) (nomark _)) (pw_and1 (pt_cmpR op_notIn_sign (pe_item_str (pv 0) (pv 3) (fun _ _ => rfl)) pe_str rfl))))
          (pss_one (ps_aug (i := 3) scPcs.nd rfl (Or.inl rfl) pe_int ip_add)))) pss_nil)
      (pss_cons (ps_expr (pe_bm PySem.F.plainAttrs_list PySem.F.slot_list_append PySem.F.type_list_append mt_append (pv 1) (pa_cons (pe_slice sl_str (pv 0) (po_some (pv 2)) (po_some (pv 3))) pa_nil)))
      (pss_one (ps_set (i := 2) scPcs.nd rfl (Or.inl rfl) (pv 3)))))))
    (pss_one (ps_ret (pv 1))))), ?_⟩)
  · obtain ⟨v, rfl, _⟩ := h
    rfl
  obtain ⟨z, rfl, hz, hQ⟩ := h
  have hzl : z.length ≤ sizeLine := most_line9 (by omega)
  have el : z.length = z.cps.toList.length := by simp [Str.length]
  have ez : z = SX z.cps.toList := rfl
  have hsign : ("() " : Str).cps.toList = [40, 41, 32] := by decide
  refine ⟨by show 0 ≤ sizeLine; decide, fun fa hfa => ⟨_, _, rfl, ?_⟩⟩
  refine ⟨fun m σ H' => ∃ (F : List (List Nat)) (i : Nat) (v3 : Option V), m = z.length - i ∧ i ≤ z.length ∧ σ = [some (.str z), some (.ref fa), some (.int (i : Nat)), v3] ∧ Same H H' ∧ H' fa = some (.lst (F.map fun p => V.str (SX p))) ∧ F ++ sp [] (z.cps.toList.drop i) = sp [] z.cps.toList, ?_, ?_⟩
  · exact ⟨_, [], 0, none, rfl, Nat.zero_le _, rfl, same_new hfa, upd_same, rfl⟩
  rintro m σ H1 ⟨F, i, v3, rfl, hi, rfl, s1, hf1, eo⟩
  refine ⟨_, rfl, _, rfl, z, rfl, hzl, _, _, rfl, rfl, _, rfl, ?_⟩
  by_cases hlt : i < z.length
  · refine ifT (decide_eq_true (by omega)) ?_
    refine ⟨fun σ' H' => ∃ m', m' < z.length - i ∧ ∃ (F : List (List Nat)) (i : Nat) (v3 : Option V), m' = z.length - i ∧ i ≤ z.length ∧ σ' = [some (.str z), some (.ref fa), some (.int (i : Nat)), v3] ∧ Same H H' ∧ H' fa = some (.lst (F.map fun p => V.str (SX p))) ∧ F ++ sp [] (z.cps.toList.drop i) = sp [] z.cps.toList, fun _ _ q => q, ?_⟩
    have hlt' : i < z.cps.toList.length := by rw [← el]; exact hlt
    have hF : F.length ≤ 1000001 := by
      have := congrArg List.length eo
      have h2 := sp_len z.cps.toList []
      rw [if_pos rfl] at h2
      simp only [List.length_append] at this
      omega
    have dr : z.cps.toList.drop i = z.cps.toList[i] :: z.cps.toList.drop (i + 1) := List.drop_eq_getElem_cons hlt'
    -- behind the inner loop
    have after : ∀ e : Nat, i < e → e ≤ z.length → sp [] (z.cps.toList.drop i) = [(z.cps.toList.drop i).take (e - i)] ++ sp [] (z.cps.toList.drop e) → ∀ H2, H2 = L2.upd H1 fa (.lst ((F.map fun p => V.str (SX p)) ++ [V.str (SX ((z.cps.toList.drop i).take (e - i)))])) →
        ∃ m', m' < z.length - i ∧ ∃ (F2 : List (List Nat)) (i2 : Nat) (w3 : Option V), m' = z.length - i2 ∧ i2 ≤ z.length ∧ [some (V.str z), some (V.ref fa), some (V.int (e : Nat)), some (V.int (e : Nat))] = [some (.str z), some (.ref fa), some (.int (i2 : Nat)), w3] ∧ Same H H2 ∧ H2 fa = some (.lst (F2.map fun p => V.str (SX p))) ∧ F2 ++ sp [] (z.cps.toList.drop i2) = sp [] z.cps.toList := fun e h1 h2 h3 H2 hH => by
      subst hH
      refine ⟨_, ?_, F ++ [(z.cps.toList.drop i).take (e - i)], e, some (.int (e : Nat)), rfl, h2, rfl, same_upd s1 hfa, ?_, ?_⟩
      · omega
      · rw [upd_same]; simp
      · rw [← eo, h3]; simp
    have tail : ∀ e : Nat, i < e → e ≤ z.length → sp [] (z.cps.toList.drop i) = [(z.cps.toList.drop i).take (e - i)] ++ sp [] (z.cps.toList.drop e) → ∀ (x : Int), x = (e : Nat) → ∀ (D : Ends), D.nx = (fun σ' H' => ∃ m', m' < z.length - i ∧ ∃ (F : List (List Nat)) (i : Nat) (v3 : Option V), m' = z.length - i ∧ i ≤ z.length ∧ σ' = [some (.str z), some (.ref fa), some (.int (i : Nat)), v3] ∧ Same H H' ∧ H' fa = some (.lst (F.map fun p => V.str (SX p))) ∧ F ++ sp [] (z.cps.toList.drop i) = sp [] z.cps.toList) →
        tSeq (tDrop (tBM K "list" rAppend (tVar 1) (tCons (tSl rSlS (tVar 0) (tPart (tVar 2)) (tPart (tVar 3))) tNil))) (tAsg (tVar 3) (gName 2)) D [some (V.str z), some (V.ref fa), some (V.int (i : Nat)), some (V.int x)] H1 := fun e h1 h2 h3 x hx D hD => by
      subst hx
      refine ⟨_, rfl, .inl ⟨rfl, _, SqL.of hf1⟩, _, rfl, _, rfl, _, rfl, _, rfl, _, rfl, z, rfl, hzl, fa, _, _, rfl, rfl, hf1, most_line8 (by rw [List.length_map]; omega), ?_⟩
      refine ⟨_, rfl, ?_⟩
      show D.nx _ _
      rw [hD]
      have ec := cut_nat (l := z.cps.toList) (i := i) (j := e) (by omega) (by omega)
      exact after e h1 h2 h3 _ (by rw [← ec])
    refine ⟨_, rfl, _, _, rfl, rfl, ?_⟩
    refine ⟨_, rfl, _, rfl, z, i, z.cps.toList[i], rfl, rfl, by omega, by omega, by omega, by simp, _, _, rfl, rfl, _, rfl, ?_⟩
    rw [hsign]
    cases hs : spec z.cps.toList[i] with
    | true =>
      refine ifF (show (!decide (z.cps.toList[i] ∈ [40, 41, 32])) = false by rw [show decide (z.cps.toList[i] ∈ [40, 41, 32]) = true from hs]; rfl) ?_
      refine tail (i + 1) (by omega) (by omega) ?_ _ (by simp) _ rfl
      rw [dr, sp_spec hs]
      simp
    | false =>
      refine ifT (show (!decide (z.cps.toList[i] ∈ [40, 41, 32])) = true by rw [show decide (z.cps.toList[i] ∈ [40, 41, 32]) = false from hs]; rfl) ?_
      refine ⟨fun m σ H' => ∃ e : Nat, m = z.length - e ∧ i < e ∧ e ≤ z.length ∧ σ = [some (V.str z), some (V.ref fa), some (V.int (i : Nat)), some (V.int (e : Nat))] ∧ H' = H1 ∧ sp [] (z.cps.toList.drop i) = sp ((z.cps.toList.drop i).take (e - i)) (z.cps.toList.drop e), ?_, ?_⟩
      · refine ⟨_, i + 1, rfl, by omega, by omega, by simp [gName], rfl, ?_⟩
        rw [dr, sp_plain hs]
        simp
      rintro m σ H2 ⟨e, rfl, he1, he2, rfl, rfl, heo⟩
      have ntk : (z.cps.toList.drop i).take (e - i) ≠ [] := by
        rw [dr]
        cases q : e - i with
        | zero => omega
        | succ k => simp
      refine ⟨_, rfl, _, rfl, z, rfl, hzl, _, _, rfl, rfl, _, rfl, ?_⟩
      by_cases hle : e < z.length
      · refine ifT (decide_eq_true (by omega)) ?_
        have hle' : e < z.cps.toList.length := by rw [← el]; exact hle
        have dre : z.cps.toList.drop e = z.cps.toList[e] :: z.cps.toList.drop (e + 1) := List.drop_eq_getElem_cons hle'
        refine ⟨_, rfl, _, rfl, z, e, z.cps.toList[e], rfl, rfl, by omega, by omega, by omega, by simp, _, _, rfl, rfl, _, rfl, ?_⟩
        rw [hsign]
        cases hs2 : spec z.cps.toList[e] with
        | true =>
          refine ifF (show (!decide (z.cps.toList[e] ∈ [40, 41, 32])) = false by rw [show decide (z.cps.toList[e] ∈ [40, 41, 32]) = true from hs2]; rfl) ?_
          refine tail e he1 he2 ?_ _ rfl _ rfl
          rw [heo, sp_flush ntk (fun c hc => by rw [dre] at hc; simp at hc; rw [← hc]; exact hs2)] <;> rfl
        | false =>
          refine ifT (show (!decide (z.cps.toList[e] ∈ [40, 41, 32])) = true by rw [show decide (z.cps.toList[e] ∈ [40, 41, 32]) = false from hs2]; rfl) ?_
          refine ⟨fun σ' H' => ∃ m', m' < z.length - e ∧ ∃ e : Nat, m' = z.length - e ∧ i < e ∧ e ≤ z.length ∧ σ' = [some (V.str z), some (V.ref fa), some (V.int (i : Nat)), some (V.int (e : Nat))] ∧ H' = H2 ∧ sp [] (z.cps.toList.drop i) = sp ((z.cps.toList.drop i).take (e - i)) (z.cps.toList.drop e), fun _ _ q => q, ?_⟩
          refine ⟨_, rfl, _, _, rfl, rfl, ?_⟩
          refine ⟨_, ?_, e + 1, rfl, by omega, by omega, by simp, rfl, ?_⟩
          · omega
          · rw [heo, dre, sp_plain hs2]
            have e1 : e + 1 - i = (e - i) + 1 := by omega
            have e2 : (z.cps.toList.drop i)[e - i]? = some z.cps.toList[e] := by
              rw [List.getElem?_drop]
              rw [show i + (e - i) = e by omega]
              simp [hle']
            rw [e1, take_snoc e2]
      · refine ifF (decide_eq_false (by omega)) (iteF ?_)
        have e0 : e = z.length := by omega
        refine tail e he1 he2 ?_ _ rfl _ rfl
        rw [heo, sp_flush ntk (fun c hc => by rw [e0, el, List.drop_length] at hc; simp at hc)] <;> rfl
  · refine ifF (decide_eq_false (by omega)) ?_
    have e : i = z.length := by omega
    rw [e, el, List.drop_length] at eo
    refine ⟨_, rfl, hQ H1 fa s1 hfa ?_⟩
    rw [hf1]
    have : F = sp [] z.cps.toList := by simpa [sp] using eo
    rw [this]
    simp [piecesS, List.map_map, Function.comp_def]
end
end K88
/-! Numbers in a text. -/
namespace K88
open PySem PySem.Spec PyProof.Rows L2 Evl
def digs (l : List Nat) : Bool := l.all fun c => decide (c ∈ figS.cps.toList)
def bareOf (l : List Nat) : List Nat := if l.take 1 = [45] then l.drop 1 else l
def numOf (l : List Nat) : Int := if l.take 1 = [45] then -((NumText.digitsVal (l.drop 1) : Nat) : Int) else ((NumText.digitsVal l : Nat) : Int)
def okNum (l : List Nat) : Bool := decide (1 ≤ (bareOf l).length) && (decide ((bareOf l).length ≤ 12) && digs (bareOf l))
def plainD (s : Str) : List PyData :=
  if s = ("-" : Str) then [.none] else if wordS s = true then [.str s] else if okNum s.cps.toList = true then (if Str.ofString (toString (numOf s.cps.toList)) = s then [.int (numOf s.cps.toList)] else []) else []
theorem figs_mem {c : Nat} : c ∈ figS.cps.toList ↔ 48 ≤ c ∧ c ≤ 57 := by
  have e : figS.cps.toList = [48, 49, 50, 51, 52, 53, 54, 55, 56, 57] := by decide
  rw [e]
  simp
  omega
theorem digs_all {l : List Nat} (h : digs l = true) : NumText.AllDigits l := fun c hc => figs_mem.mp (of_decide_eq_true (List.all_eq_true.mp h c hc))
theorem take1 {l : List Nat} (h : l.take 1 = [45]) : l = 45 :: l.drop 1 := by
  cases l with
  | nil => simp at h
  | cons c r =>
    simp at h
    rw [h] <;> rfl
theorem num_text {s : Str} (h : okNum s.cps.toList = true) (hz : s.length ≤ 4300) : intText? s = some (numOf s.cps.toList) := by
  unfold okNum at h
  obtain ⟨h1, h2⟩ := Bool.and_eq_true_iff.mp h
  obtain ⟨h2, h3⟩ := Bool.and_eq_true_iff.mp h2
  have h1 := of_decide_eq_true h1
  have h3 := digs_all h3
  unfold bareOf at h1 h3
  unfold numOf
  split
  · rename_i hs
    rw [if_pos hs] at h1 h3
    exact PySem.intText_neg (take1 hs) h3 (fun e => by rw [e] at h1; simp at h1) hz
  · rename_i hs
    rw [if_neg hs] at h1 h3
    exact PySem.intText_digits h3 (fun e => by rw [e] at h1; simp at h1) hz
theorem digitsVal_lt : ∀ (l : List Nat) (a : Nat), NumText.AllDigits l → l.foldl (fun acc c => acc * 10 + (c - 48)) a < (a + 1) * 10 ^ l.length
  | [], a, _ => by simp
  | c :: r, a, h => by
    have h1 := h c (List.mem_cons_self ..)
    have := digitsVal_lt r (a * 10 + (c - 48)) h.tail
    show r.foldl _ (a * 10 + (c - 48)) < _
    refine Nat.lt_of_lt_of_le this ?_
    rw [List.length_cons, Nat.pow_succ']
    rw [← Nat.mul_assoc]
    exact Nat.mul_le_mul_right _ (by omega)
theorem num_small {l : List Nat} (h : okNum l = true) : (numOf l).natAbs < 10 ^ 12 := by
  unfold okNum at h
  obtain ⟨h1, h2⟩ := Bool.and_eq_true_iff.mp h
  obtain ⟨h2, h3⟩ := Bool.and_eq_true_iff.mp h2
  have h2 := of_decide_eq_true h2
  have h3 := digs_all h3
  have key : ∀ m : List Nat, NumText.AllDigits m → m.length ≤ 12 → NumText.digitsVal m < 10 ^ 12 := fun m a b => by
    have := digitsVal_lt m 0 a
    rw [Nat.zero_add, Nat.one_mul] at this
    exact Nat.lt_of_lt_of_le this (Nat.pow_le_pow_right (by decide) b)
  unfold bareOf at h2 h3
  unfold numOf
  split
  · rename_i hs
    rw [if_pos hs] at h2 h3
    have := key _ h3 h2
    rw [Int.natAbs_neg, Int.natAbs_natCast]
    exact this
  · rename_i hs
    rw [if_neg hs] at h2 h3
    have := key _ h3 h2
    rw [Int.natAbs_natCast]
    exact this
theorem log_small {i : Int} (h : i.natAbs < 10 ^ 12) : i.natAbs.log2 < 1920 := by
  by_cases h0 : i.natAbs = 0
  · rw [h0]; decide
  · have h2 : i.natAbs < 2 ^ 40 := Nat.lt_of_lt_of_le h (by decide)
    have := (Nat.log2_lt h0).mpr h2
    omega
theorem cut_from {l : List Nat} {i : Nat} : cutS (SX l) (some (i : Int)) none = SX (l.drop i) := by
  unfold cutS
  rw [HT.sIx_nat, HT.sIx_none]
  have e : (SX l).length = l.length := by simp [Str.length]
  rw [e]
  by_cases h : i ≤ l.length
  · rw [Nat.min_eq_left h]
    rw [List.take_of_length_le (by simp)]
  · rw [Nat.min_eq_right (by omega)]
    simp
    omega
theorem cut_to {l : List Nat} {i : Nat} : cutS (SX l) none (some (i : Int)) = SX (l.take i) := by
  unfold cutS
  rw [HT.sIx_nat, HT.sIx_none]
  have e : (SX l).length = l.length := by simp [Str.length]
  rw [e, List.drop_zero, Nat.sub_zero]
  by_cases h : i ≤ l.length
  · rw [Nat.min_eq_left h]
  · rw [Nat.min_eq_right (by omega), List.take_of_length_le (by simp), List.take_of_length_le (by omega)]
theorem SX_inj {a b : List Nat} (h : SX a = SX b) : a = b := congrArg (fun x : Str => x.cps.toList) h
end K88
namespace K88
open PySem PySem.Spec PyProof.Rows L2 Evl
theorem scPln : FnScope ["piece", "bare", "sign"] ["piece"] (defScope (top 29)) := ⟨rfl, rfl, rfl, by decide +kernel, rfl, by decide +kernel, by decide +kernel⟩
/-- a text in, a new list of data out -/
def spStrD (f : Str → List PyData) : Sp := fun vs H Q E => ∃ s : Str, vs = [.str s] ∧ s.length ≤ 1000000 ∧ ∀ H' p xs, Same H H' → H p = none → H' p = some (.lst xs) → DvL H' xs (f s) → Q (.ref p) H'
abbrev spPln : Sp := spStrD plainD
section
variable {P : Program} {w : World} {K : PySem.W.Frag} {mg : Str → Option Value} {base : Heap} {f f1 : Addr} {fd fd1 : FuncData}
theorem ok_pln (G : Gl8 mg) (F : FnP K "plain_of" 29 f fd) (F1 : DefAt K mg "is_word" 24 f1 fd1) : FnOk P w K mg base CX0 2 f fd ["piece"] spPln := by
  have G1 : FnOk P w K mg base CX0 1 f1 fd1 ["thing"] spWord := ok_word G F1.fn
  have b1 : Binds K fd1 ["thing"] [] := bind1 F1.fn fun _ _ _ _ _ _ _ => rfl
  obtain ⟨tf, ef⟩ := G.figs
  obtain ⟨td, ed⟩ := G.figures
  refine F.ok scPln (fun vs H Q E h => ?_) (fun cdv A outer s H vs Q E hr h => ⟨_, PSs.nox (pss_cons (ps_if (pt_cmpR op_eq (pv 0) pe_str (nomark _)) (pss_one (ps_ret (pe_lst (pa_cons pe_non pa_nil)))) pss_nil)
    (pss_cons (ps_if (pt_val (pe_call G1 hr rfl F1.g F1.fn.kp b1 .nil pass0 (pa_cons (pv 0) pa_nil))) (pss_one (ps_ret (pe_lst (pa_cons (pv 0) pa_nil)))) pss_nil)
    (pss_cons (ps_set (i := 1) scPln.nd rfl (Or.inl rfl) (pe_ifExp (pt_cmpR op_eq (pe_slice sl_str (pv 0) po_none (po_some pe_int)) pe_str (nomark _)) (pe_slice sl_str (pv 0) (po_some pe_int) po_none) (pv 0)))
    (pss_cons (ps_if (PW.pt (pw_or (pt_not (pt_chain op_le op_le pe_int (pe_callB call_len_str (by rfl) G.len PySem.boot_len (pa_cons (pv 1) pa_nil)) (pe_glob (v := .int 12) rfl ef ⟨tf, rfl⟩)))
        (pw_or1 (pt_not (pt_val (pe_callB (cr_all rfl) rfl G.all (by decide +kernel) (pa_cons 
          (pe_lc (own := [("sign", 2)]) (g := gName 2) rfl scPln.nd (pi_str (pv 1)) (blkOk_by (N := ["piece", "bare", "sign"]) (sc := defScope (top 29)) (by decide +kernel)) (fun _ _ _ _ _ => pg_name (i := 2) scPln.nd rfl (Or.inl rfl)) (fun _ _ _ _ _ => pts_nil)
            (fun _ _ _ _ _ => pe_cmpR op_in_sign (pv 2) (pe_glob (v := .str figS) rfl ed ⟨td, rfl⟩) rfl)) pa_nil)))))))
      (pss_one (ps_ret (pe_lst pa_nil))) pss_nil)
    (pss_one (ps_ret (pe_ifExp (pt_cmpR op_eq (pe_callTy call_str_int (by rfl) G.str (by decide +kernel) (pa_cons (pe_callTy call_int_str (by rfl) G.int (by decide +kernel) (pa_cons (pv 0) pa_nil)) pa_nil)) (pv 0) (nomark _))
      (pe_lst (pa_cons (pe_callTy call_int_str (by rfl) G.int (by decide +kernel) (pa_cons (pv 0) pa_nil)) pa_nil)) (pe_lst pa_nil)))))))), ?_⟩)
  · obtain ⟨v, rfl, _⟩ := h
    rfl
  obtain ⟨z, rfl, hz, hQ⟩ := h
  have hzl : z.length ≤ sizeLine := most_line9 (by omega)
  have ez : z = SX z.cps.toList := rfl
  have one : ∀ (H1 : Hp) (v : V) (d : PyData), Same H H1 → plainD z = [d] → (∀ H2, Dv H2 v d) → 1 ≤ sizeLine ∧ ∀ p, H1 p = none → Q (.ref p) (L2.upd H1 p (.lst [v])) := fun H1 v d s1 e1 hv => by
    refine ⟨by decide, fun p hp => ?_⟩
    have hp0 : H p = none := by
      cases q : H p with
      | none => rfl
      | some u => rw [s1 _ _ q] at hp; cases hp
    refine hQ _ p [v] (s1.trans (same_new hp)) hp0 upd_same ?_
    rw [e1]
    exact DvL.one (hv _)
  have none' : ∀ (H1 : Hp), Same H H1 → plainD z = [] → 0 ≤ sizeLine ∧ ∀ p, H1 p = none → Q (.ref p) (L2.upd H1 p (.lst [])) := fun H1 s1 e1 => by
    refine ⟨by decide, fun p hp => ?_⟩
    have hp0 : H p = none := by
      cases q : H p with
      | none => rfl
      | some u => rw [s1 _ _ q] at hp; cases hp
    refine hQ _ p [] (s1.trans (same_new hp)) hp0 upd_same ?_
    rw [e1]
    exact DvL.nil
  refine ⟨_, rfl, rfl, _, rfl, ?_⟩
  by_cases h1 : z = ("-" : Str)
  · refine ifT (decide_eq_true (congrArg V.str h1)) ?_
    exact one H .non .none (Same.refl _) (by unfold plainD; rw [if_pos h1]) fun _ => .non
  refine ifF (decide_eq_false fun q => h1 (by injection q)) ?_
  refine ⟨_, rfl, .str z, .str z, rfl, .str z, (by unfold wt most; show z.length + 2 ≤ _; omega), fun H1 s1 => ⟨_, rfl, ?_⟩⟩
  cases h2 : wordS z with
  | true =>
    refine ifT (show isWordD (.str z) = true from h2) ?_
    refine ⟨_, rfl, one H1 (.str z) (.str z) s1 ?_ fun _ => .str z⟩
    unfold plainD
    rw [if_neg h1, if_pos h2]
  | false =>
    refine ifF (show isWordD (.str z) = false from h2) ?_
    have pe : plainD z = if okNum z.cps.toList = true then (if Str.ofString (toString (numOf z.cps.toList)) = z then [.int (numOf z.cps.toList)] else []) else [] := by
      unfold plainD
      rw [if_neg h1, if_neg (by rw [h2]; simp)]
    -- behind bare = ..
    have rest : ∀ (D : Ends), D.rt = Q → tSeq
        (tIfS (tOr (tNot (tTest (tChain (rI0 fun i j => .bl (decide (i ≤ j))) (rI0 fun i j => .bl (decide (i ≤ j))) (tC (.int 1)) (tCB (fun xs H Q => ∃ z, xs = [V.str z] ∧ z.length ≤ sizeLine ∧ Q (V.int z.length) H) (tCons (tVar 1) tNil)) (tC (.int 12))))) (tNot (tB (tCB (rAll K) (tCons (tLc (iStr (tVar 1)) (gName 2) tYes (tOp (fun x y H Q => ∃ c z, x = V.str { cps := #[c] } ∧ y = V.str z ∧ Q (V.bl (decide (c ∈ z.cps.toList))) H) (tVar 2) (tC (V.str figS))) (List.map (fun x => x.snd) [(("sign" : Str), 2)])) tNil))))) (tRet (tLst tNil)) tNext)
        (tRet (tIf (tTest (tOp rEq (tCB (fun xs H Q => ∃ i, xs = [V.int i] ∧ i.natAbs.log2 < 1920 ∧ Q (V.str (toString i)) H) (tCons (tCB (fun xs H Q => ∃ a n, xs = [V.str a] ∧ PySem.intText? a = some n ∧ a.length ≤ 640 ∧ Q (V.int n) H) (tCons (tVar 0) tNil)) tNil)) (tVar 0))) (tLst (tCons (tCB (fun xs H Q => ∃ a n, xs = [V.str a] ∧ PySem.intText? a = some n ∧ a.length ≤ 640 ∧ Q (V.int n) H) (tCons (tVar 0) tNil)) tNil)) (tLst tNil))) D [some (.str z), some (.str (SX (bareOf z.cps.toList))), none] H1 := fun D hD => by
      have bl : (SX (bareOf z.cps.toList)).length = (bareOf z.cps.toList).length := by simp [Str.length]
      have bz : (bareOf z.cps.toList).length ≤ z.length := by
        unfold bareOf
        split <;> simp [Str.length]
      have no : plainD z = [] → tRet (tLst tNil) D [some (.str z), some (.str (SX (bareOf z.cps.toList))), none] H1 := fun e => by
        show 0 ≤ sizeLine ∧ ∀ p, H1 p = none → D.rt (.ref p) (L2.upd H1 p (.lst []))
        rw [hD]
        exact none' H1 s1 e
      refine ⟨_, rfl, _, rfl, (by omega), _, _, rfl, rfl, _, rfl, ?_⟩
      rw [bl]
      by_cases c1 : 1 ≤ (bareOf z.cps.toList).length
      · refine ifT (decide_eq_true (by omega)) ?_
        refine ⟨_, _, rfl, rfl, _, rfl, ?_⟩
        by_cases c2 : (bareOf z.cps.toList).length ≤ 12
        · refine ifF (by rw [decide_eq_true (show ((bareOf z.cps.toList).length : Int) ≤ 12 by omega)]; rfl) ?_
          refine ⟨_, rfl, _, rfl, fun Dd hDd => lc_strMap (fun c => .bl (decide (c ∈ figS.cps.toList))) ?_ ?_ ?_⟩
          · exact most_line8 (by show (SX (bareOf z.cps.toList)).length ≤ _; omega)
          · intro c H R R' hR
            exact ⟨rfl, ⟨_, rfl, c, _, rfl, rfl, hR⟩⟩
          · refine ⟨Dd, (bareOf z.cps.toList).map fun c => decide (c ∈ figS.cps.toList), rfl, ?_, ?_⟩
            · rw [List.map_map]
              exact SqL.of upd_same
            have ea : ((bareOf z.cps.toList).map fun c => decide (c ∈ figS.cps.toList)).all id = digs (bareOf z.cps.toList) := by
              simp [digs, List.all_map]
            rw [ea]
            have s2 : Same H1 (L2.upd H1 Dd (.lst ((bareOf z.cps.toList).map fun c => .bl (decide (c ∈ figS.cps.toList))))) := same_new hDd
            refine ⟨_, rfl, ?_⟩
            cases c3 : digs (bareOf z.cps.toList) with
            | false =>
              refine iteT ?_
              show 0 ≤ sizeLine ∧ ∀ p, _ = none → D.rt (.ref p) _
              rw [hD]
              refine none' _ (s1.trans s2) ?_
              rw [pe, if_neg]
              unfold okNum
              rw [c3]
              simp
            | true =>
              refine iteF ?_
              have ok : okNum z.cps.toList = true := by unfold okNum; rw [c3, decide_eq_true c1, decide_eq_true c2]; rfl
              have zs : z.length ≤ 13 := by
                have : z.length ≤ (bareOf z.cps.toList).length + 1 := by
                  unfold bareOf
                  split <;> simp [Str.length] <;> omega
                omega
              have it := num_text ok (by omega)
              have sm := num_small ok
              rw [if_pos ok] at pe
              refine ⟨_, rfl, z, numOf z.cps.toList, rfl, it, by omega, numOf z.cps.toList, rfl, log_small sm, _, rfl, rfl, _, rfl, ?_⟩
              by_cases c4 : Str.ofString (toString (numOf z.cps.toList)) = z
              · refine ifT (decide_eq_true (congrArg V.str c4)) ?_
                rw [if_pos c4] at pe
                refine ⟨_, rfl, z, numOf z.cps.toList, rfl, it, by omega, ?_⟩
                show 1 ≤ sizeLine ∧ ∀ p, _ = none → D.rt (.ref p) _
                rw [hD]
                exact one _ (.int _) (.int _) (s1.trans s2) pe fun _ => .int _
              · refine ifF (decide_eq_false fun q => c4 (by injection q)) ?_
                rw [if_neg c4] at pe
                show 0 ≤ sizeLine ∧ ∀ p, _ = none → D.rt (.ref p) _
                rw [hD]
                exact none' _ (s1.trans s2) pe
        · refine ifT (by rw [decide_eq_false (show ¬ ((bareOf z.cps.toList).length : Int) ≤ 12 by omega)]; rfl) (no ?_)
          rw [pe, if_neg]
          unfold okNum
          rw [decide_eq_false c2]
          simp
      · refine ifF (decide_eq_false (by omega)) ?_
        refine ⟨_, rfl, ?_⟩
        refine iteT (no ?_)
        rw [pe, if_neg]
        unfold okNum
        rw [decide_eq_false c1]
        simp
    have eb1 : cutS z none (some (1 : Int)) = SX (z.cps.toList.take 1) := cut_to (l := z.cps.toList) (i := 1)
    have eb2 : cutS z (some (1 : Int)) none = SX (z.cps.toList.drop 1) := cut_from (l := z.cps.toList) (i := 1)
    refine ⟨_, rfl, _, rfl, z, rfl, hzl, rfl, _, rfl, ?_⟩
    rw [eb1]
    by_cases hs : z.cps.toList.take 1 = [45]
    · refine ifT (decide_eq_true (by rw [hs]; decide)) ?_
      refine ⟨_, rfl, _, rfl, z, rfl, hzl, ?_⟩
      rw [eb2]
      have : bareOf z.cps.toList = z.cps.toList.drop 1 := by unfold bareOf; rw [if_pos hs]
      rw [← this]
      exact rest _ rfl
    · refine ifF (decide_eq_false fun q => hs (by injection q with q; exact SX_inj (q.trans (by decide)))) ?_
      refine ⟨_, rfl, ?_⟩
      have : bareOf z.cps.toList = z.cps.toList := by unfold bareOf; rw [if_neg hs]
      have e2 : some (V.str z) = some (V.str (SX (bareOf z.cps.toList))) := by rw [this]
      show tSeq _ _ _ [some (V.str z), some (V.str z), none] H1
      have := rest { nx := fun _ H' => Q .non H', rt := Q } rfl
      rw [← e2] at this
      exact this
end
end K88
/-! The value of a text's pieces. -/
namespace K88
open PySem PySem.Spec PyProof.Rows L2 Evl
abbrev VS : Type := List (List PyData) × List PyData
def putD : List (List PyData) → List PyData → PyData → Option VS
  | [], done, d => if done.isEmpty = true then some ([], [d]) else none
  | t :: st, done, _d => some ((t ++ [_d]) :: st, done)
def stp (st : List (List PyData)) (done : List PyData) (p : Str) : Option VS :=
  if p = ("(" : Str) then some ([] :: st, done) else if p = (" " : Str) then some (st, done) else if p = (")" : Str) then (match st with
    | [] => none
    | t :: st' => putD st' done (.tuple t))
  else (match plainD p with
    | [] => none
    | d :: _ => putD st done d)
def vfold : List (List PyData) → List PyData → List Str → Option VS
  | st, done, [] => some (st, done)
  | st, done, p :: ps => (match stp st done p with
    | none => none
    | some x => vfold x.1 x.2 ps)
def valueOf (ps : List Str) : List PyData := match vfold [] [] ps with
  | some ([], done) => done
  | _ => []
theorem vfold_app : ∀ (a b : List Str) (st : List (List PyData)) (done : List PyData), vfold st done (a ++ b) = (match vfold st done a with
    | none => none
    | some x => vfold x.1 x.2 b)
  | [], _, _, _ => rfl
  | p :: a, b, st, done => by
    show (match stp st done p with | none => none | some x => vfold x.1 x.2 (a ++ b)) = (match (match stp st done p with | none => none | some x => vfold x.1 x.2 a) with | none => none | some x => vfold x.1 x.2 b)
    cases stp st done p with
    | none => rfl
    | some x => exact vfold_app a b x.1 x.2
def wst (st : List (List PyData)) : Nat := (st.map fun t => wt.wts t + 3).sum
theorem wst_cons (t : List PyData) (st : List (List PyData)) : wst (t :: st) = wt.wts t + 3 + wst st := by simp [wst]
theorem wts_one (d : PyData) : wt.wts [d] = wt d := by simp [wt.wts]
theorem putD_w {st : List (List PyData)} {done : List PyData} {d : PyData} {x : VS} (h : putD st done d = some x) : wst x.1 + wt.wts x.2 ≤ wst st + wt.wts done + wt d := by
  cases st with
  | nil =>
    have h : (if done.isEmpty = true then some (([], [d]) : VS) else none) = some x := h
    split at h
    · cases h
      show wst [] + wt.wts [d] ≤ _
      rw [wts_one]
      omega
    · cases h
  | cons t st =>
    cases h
    show wst ((t ++ [d]) :: st) + _ ≤ _
    rw [wst_cons, wst_cons, wts_app, wts_one]
    show _ ≤ _
    dsimp only
    omega
theorem plainD_w {p : Str} {d : PyData} {r : List PyData} (h : plainD p = d :: r) : wt d ≤ p.length + 16 := by
  unfold plainD at h
  split at h
  · cases h; show 2 ≤ _; omega
  · split at h
    · cases h; show p.cps.size + 2 ≤ p.cps.size + 16; omega
    · split at h
      · split at h
        · cases h; show 16 ≤ _; omega
        · cases h
      · cases h
theorem stp_w {st : List (List PyData)} {done : List PyData} {p : Str} {x : VS} (h : stp st done p = some x) : wst x.1 + wt.wts x.2 ≤ wst st + wt.wts done + (p.length + 16) := by
  unfold stp at h
  split at h
  · cases h
    dsimp only
    rw [wst_cons]
    have : wt.wts [] = 0 := rfl
    omega
  · split at h
    · cases h
      dsimp only
      omega
    · split at h
      · cases st with
        | nil => cases h
        | cons t st =>
          have := putD_w h
          rw [wst_cons]
          have e : wt (.tuple t) = 3 + wt.wts t := rfl
          omega
      · cases hp : plainD p with
        | nil => rw [hp] at h; cases h
        | cons d r =>
          rw [hp] at h
          have := putD_w h
          have := plainD_w hp
          omega
theorem vfold_w : ∀ (ps : List Str) (st : List (List PyData)) (done : List PyData) (x : VS), vfold st done ps = some x → wst x.1 + wt.wts x.2 ≤ wst st + wt.wts done + (lens ps + 16 * ps.length)
  | [], st, done, x, h => by
    cases h
    exact Nat.le_add_right _ _
  | p :: ps, st, done, x, h => by
    have h2 : (match stp st done p with | none => none | some x => vfold x.1 x.2 ps) = some x := h
    cases hs : stp st done p with
    | none => rw [hs] at h2; cases h2
    | some y =>
      rw [hs] at h2
      have i1 := vfold_w ps y.1 y.2 x h2
      have i2 := stp_w hs
      rw [lens_cons, List.length_cons]
      omega
theorem lens_take (ps : List Str) (j : Nat) : lens (ps.take j) + 16 * (ps.take j).length ≤ lens ps + 16 * ps.length := by
  have h := lens_app (ps.take j) (ps.drop j)
  rw [List.take_append_drop] at h
  have : (ps.take j).length ≤ ps.length := by simp; omega
  omega
theorem valueOf_some {ps : List Str} {d : PyData} {r : List PyData} (h : valueOf ps = d :: r) : wt d ≤ lens ps + 16 * ps.length := by
  unfold valueOf at h
  cases hv : vfold [] [] ps with
  | none => rw [hv] at h; cases h
  | some x =>
    rw [hv] at h
    obtain ⟨a, b⟩ := x
    cases a with
    | cons t a => cases h
    | nil =>
      have h : b = d :: r := h
      have := vfold_w ps [] [] _ hv
      rw [h] at this
      have e : wt.wts (d :: r) = wt d + wt.wts r := rfl
      have e2 : wst [] = 0 := rfl
      have e3 : wt.wts [] = 0 := rfl
      dsimp only at this
      omega
/-- stopped at the j-th -/
theorem valueOf_stop {ps : List Str} {j : Nat} {p : Str} {st : List (List PyData)} {done : List PyData} (h : vfold [] [] (ps.take j) = some (st, done)) (hp : ps[j]? = some p) (hs : stp st done p = none) : valueOf ps = [] := by
  unfold valueOf
  have e : ps = ps.take j ++ (p :: ps.drop (j + 1)) := by
    obtain ⟨h1, h2⟩ := List.getElem?_eq_some_iff.mp hp
    rw [← h2, ← List.drop_eq_getElem_cons h1, List.take_append_drop]
  rw [e, vfold_app, h]
  show (match (match stp st done p with | none => none | some x => vfold x.1 x.2 (ps.drop (j + 1))) with | some ([], done) => done | _ => []) = []
  rw [hs]
theorem vfold_step {ps : List Str} {j : Nat} {p : Str} {st : List (List PyData)} {done : List PyData} {x : VS} (h : vfold [] [] (ps.take j) = some (st, done)) (hp : ps[j]? = some p) (hs : stp st done p = some x) : vfold [] [] (ps.take (j + 1)) = some x := by
  rw [take_snoc hp, vfold_app, h]
  show (match stp st done p with | none => none | some x => vfold x.1 x.2 []) = some x
  rw [hs] <;> rfl
end K88
/-! The heap of value_of: a list of open lists, what is done. -/
namespace K88
open PySem PySem.Spec PyProof.Rows L2 Evl
theorem DvL.text {H H' : Hp} {xs : List V} {ds : List PyData} (e : TExt H H') (a : DvL H xs ds) (p : ds.all pl = true) : DvL H' xs ds := ⟨a.1, fun i x d h1 h2 => (a.2 i x d h1 h2).text e (List.all_eq_true.mp p d (List.mem_of_getElem? h2))⟩
theorem pls_all : ∀ (ds : List PyData), pl.pls ds = ds.all pl
  | [] => rfl
  | d :: ds => by
    show (pl d && pl.pls ds) = (pl d && ds.all pl)
    rw [pls_all ds]
structure VI (H0 H : Hp) (oa da : Addr) (rs : List Addr) (st : List (List PyData)) (dxs : List V) (done : List PyData) : Prop where
  same : Same H0 H
  o0 : H0 oa = none
  r0 : ∀ r ∈ rs, H0 r = none
  ho : H oa = some (.lst (rs.reverse.map V.ref))
  nd : rs.Nodup
  on : oa ∉ rs
  dn : da ∉ rs
  od : oa ≠ da
  hd : H da = some (.lst dxs)
  dd : DvL H dxs done
  dp : done.all pl = true
  len : rs.length = st.length
  it : ∀ (k : Nat) (r : Addr) (t : List PyData), rs[k]? = some r → st[k]? = some t → ∃ xs, H r = some (.lst xs) ∧ DvL H xs t ∧ t.all pl = true
section
variable {H0 H : Hp} {oa da : Addr} {rs : List Addr} {st : List (List PyData)} {dxs : List V} {done : List PyData}
theorem VI.ex (I : VI H0 H oa da rs st dxs done) {r : Addr} (hr : r ∈ rs) : ∃ xs, H r = some (.lst xs) := by
  obtain ⟨k, hk, e⟩ := List.mem_iff_getElem.mp hr
  obtain ⟨xs, h, _⟩ := I.it k r (st[k]'(by rw [← I.len]; exact hk)) (by rw [← e]; simp) (by simp)
  exact ⟨xs, h⟩
/-- something new -/
theorem VI.new {p : Addr} {o : HO} (I : VI H0 H oa da rs st dxs done) (h : H p = none) : VI H0 (L2.upd H p o) oa da rs st dxs done where
  same := I.same.trans (same_new h)
  o0 := I.o0
  r0 := I.r0
  ho := by rw [upd_ne (ne_of_none I.ho h)]; exact I.ho
  nd := I.nd
  on := I.on
  dn := I.dn
  od := I.od
  hd := by rw [upd_ne (ne_of_none I.hd h)]; exact I.hd
  dd := I.dd.same (same_new h)
  dp := I.dp
  len := I.len
  it := fun k r t h1 h2 => by
    obtain ⟨xs, a, b, c⟩ := I.it k r t h1 h2
    exact ⟨xs, same_new h _ _ a, b.same (same_new h), c⟩
theorem VI.sameH {H' : Hp} (I : VI H0 H oa da rs st dxs done) (e : Same H H') : VI H0 H' oa da rs st dxs done where
  same := I.same.trans e
  o0 := I.o0
  r0 := I.r0
  ho := e _ _ I.ho
  nd := I.nd
  on := I.on
  dn := I.dn
  od := I.od
  hd := e _ _ I.hd
  dd := I.dd.same e
  dp := I.dp
  len := I.len
  it := fun k r t h1 h2 => by
    obtain ⟨xs, a, b, c⟩ := I.it k r t h1 h2
    exact ⟨xs, e _ _ a, b.same e, c⟩
/-- open_ones.append(r), r a new empty list -/
theorem VI.push {r : Addr} (I : VI H0 H oa da rs st dxs done) (h : H r = none) : VI H0 (L2.upd (L2.upd H r (.lst [])) oa (.lst (rs.reverse.map V.ref ++ [.ref r]))) oa da (r :: rs) ([] :: st) dxs done := by
  have hro : r ≠ oa := Ne.symm (ne_of_none I.ho h)
  have hrd : r ≠ da := Ne.symm (ne_of_none I.hd h)
  have hrr : r ∉ rs := fun z => by obtain ⟨xs, e⟩ := I.ex z; rw [h] at e; cases e
  have h0 : H0 r = none := by
    cases q : H0 r with
    | none => rfl
    | some u => rw [I.same _ _ q] at h; cases h
  have I2 := I.new (p := r) (o := .lst []) h
  have T : TExt (L2.upd H r (.lst [])) (L2.upd (L2.upd H r (.lst [])) oa (.lst (rs.reverse.map V.ref ++ [.ref r]))) := TExt.upd I2.ho (fun _ z => nomatch z)
  refine ⟨same_upd I2.same I.o0, I.o0, ?_, ?_, ?_, ?_, ?_, I.od, ?_, I2.dd.text T I.dp, I.dp, by simp [I.len], ?_⟩
  · intro x hx
    rcases List.mem_cons.mp hx with e | e
    · rw [e]; exact h0
    · exact I.r0 x e
  · rw [upd_same]; simp
  · exact List.nodup_cons.mpr ⟨hrr, I.nd⟩
  · intro z
    rcases List.mem_cons.mp z with e | e
    · exact hro e.symm
    · exact I.on e
  · intro z
    rcases List.mem_cons.mp z with e | e
    · exact hrd e.symm
    · exact I.dn e
  · rw [upd_ne (Ne.symm I.od)]; exact I2.hd
  · intro k x t h1 h2
    cases k with
    | zero =>
      simp at h1 h2
      subst h1 h2
      exact ⟨[], by rw [upd_ne hro]; exact upd_same, DvL.nil, rfl⟩
    | succ k =>
      obtain ⟨xs, a, b, c⟩ := I2.it k x t (by simpa using h1) (by simpa using h2)
      have : x ≠ oa := fun z => I.on (by rw [← z]; exact List.mem_of_getElem? (by simpa using h1))
      exact ⟨xs, by rw [upd_ne this]; exact a, b.text T c, c⟩
/-- open_ones.pop() -/
theorem VI.pop {r : Addr} {rs' : List Addr} {t : List PyData} {st' : List (List PyData)} (I : VI H0 H oa da (r :: rs') (t :: st') dxs done) : VI H0 (L2.upd H oa (.lst (rs'.reverse.map V.ref))) oa da rs' st' dxs done ∧ ∃ xs, (L2.upd H oa (.lst (rs'.reverse.map V.ref))) r = some (.lst xs) ∧ DvL (L2.upd H oa (.lst (rs'.reverse.map V.ref))) xs t ∧ t.all pl = true := by
  have T : TExt H (L2.upd H oa (.lst (rs'.reverse.map V.ref))) := TExt.upd I.ho (fun _ z => nomatch z)
  have nr : ∀ x ∈ r :: rs', x ≠ oa := fun x hx z => I.on (by rw [← z]; exact hx)
  refine ⟨⟨same_upd I.same I.o0, I.o0, fun x hx => I.r0 x (List.mem_cons_of_mem _ hx), upd_same, (List.nodup_cons.mp I.nd).2, fun z => I.on (List.mem_cons_of_mem _ z), fun z => I.dn (List.mem_cons_of_mem _ z), I.od, by rw [upd_ne (Ne.symm I.od)]; exact I.hd, I.dd.text T I.dp, I.dp, by have := I.len; simpa using this, fun k x u h1 h2 => ?_⟩, ?_⟩
  · obtain ⟨xs, a, b, c⟩ := I.it (k + 1) x u (by simpa using h1) (by simpa using h2)
    exact ⟨xs, by rw [upd_ne (nr x (List.mem_cons_of_mem _ (List.mem_of_getElem? h1)))]; exact a, b.text T c, c⟩
  · obtain ⟨xs, a, b, c⟩ := I.it 0 r t rfl rfl
    exact ⟨xs, by rw [upd_ne (nr r List.mem_cons_self)]; exact a, b.text T c, c⟩
/-- done = one -/
theorem VI.turn {q : Addr} {ys : List V} {ds : List PyData} (I : VI H0 H oa da rs st dxs done) (hq : H q = some (.lst ys)) (h1 : q ∉ rs) (h2 : oa ≠ q) (d : DvL H ys ds) (p : ds.all pl = true) : VI H0 H oa q rs st ys ds :=
  { I with dn := h1, od := h2, hd := hq, dd := d, dp := p }
/-- open_ones[-1].append(v) -/
theorem VI.app {r : Addr} {rs' : List Addr} {t : List PyData} {st' : List (List PyData)} {xs : List V} {v : V} {d : PyData} (I : VI H0 H oa da (r :: rs') (t :: st') dxs done) (hr : H r = some (.lst xs)) (hx : DvL H xs t) (hv : Dv H v d) (hp : pl d = true) :
    VI H0 (L2.upd H r (.lst (xs ++ [v]))) oa da (r :: rs') ((t ++ [d]) :: st') dxs done := by
  have T : TExt H (L2.upd H r (.lst (xs ++ [v]))) := TExt.upd hr (fun _ z => nomatch z)
  have no : oa ≠ r := fun z => I.on (by rw [z]; exact List.mem_cons_self)
  have nd : da ≠ r := fun z => I.dn (by rw [z]; exact List.mem_cons_self)
  have ht : t.all pl = true := by
    obtain ⟨_, _, _, c⟩ := I.it 0 r t rfl rfl
    exact c
  refine ⟨same_upd I.same (I.r0 r List.mem_cons_self), I.o0, I.r0, by rw [upd_ne no]; exact I.ho, I.nd, I.on, I.dn, I.od, by rw [upd_ne nd]; exact I.hd, I.dd.text T I.dp, I.dp, by have := I.len; simpa using this, fun k x u h1 h2 => ?_⟩
  cases k with
  | zero =>
    simp at h1 h2
    subst h1 h2
    refine ⟨_, upd_same, (hx.text T ht).app (DvL.one (hv.text T hp)), ?_⟩
    rw [List.all_append, ht]
    simp [hp]
  | succ k =>
    obtain ⟨ys, a, b, c⟩ := I.it (k + 1) x u h1 (by simpa using h2)
    have : x ≠ r := fun z => (List.nodup_cons.mp I.nd).1 (by rw [← z]; exact List.mem_of_getElem? (by simpa using h1))
    exact ⟨ys, by rw [upd_ne this]; exact a, b.text T c, c⟩
end
theorem plainD_leaf {p : Str} : (plainD p).all pl = true ∧ (plainD p).length ≤ 1 := by
  unfold plainD
  split
  · exact ⟨rfl, by simp⟩
  · split
    · exact ⟨rfl, by simp⟩
    · split
      · split
        · exact ⟨rfl, by simp⟩
        · exact ⟨rfl, by simp⟩
      · exact ⟨rfl, by simp⟩
end K88
namespace K88
open PySem PySem.Spec PyProof.Rows L2 Evl
theorem scVof : FnScope ["pieces", "open_ones", "done", "piece", "one"] ["pieces"] (defScope (top 30)) := ⟨rfl, rfl, rfl, by decide +kernel, rfl, by decide +kernel, by decide +kernel⟩
def spVof : Sp := fun vs H Q E => ∃ (pa : Addr) (ps : List Str), vs = [.ref pa] ∧ H pa = some (.lst (ps.map V.str)) ∧ lens ps + 16 * ps.length ≤ most ∧ (∀ p ∈ ps, p.length ≤ 1000000) ∧ ∀ H' q xs, Same H H' → H' q = some (.lst xs) → DvL H' xs (valueOf ps) → Q (.ref q) H'
section
variable {P : Program} {w : World} {K : PySem.W.Frag} {mg : Str → Option Value} {base : Heap} {f f1 f2 : Addr} {fd fd1 fd2 : FuncData}
theorem atLast (l : List Addr) (r : Addr) : atI ((r :: l).reverse.map V.ref) (-1) = some (V.ref r) := by
  have e : (r :: l).reverse.map V.ref = l.reverse.map V.ref ++ [.ref r] := by simp
  rw [e]
  exact atI_last _ _
theorem ok_vof (G : Gl8 mg) (F : FnP K "value_of" 30 f fd) (F1 : DefAt K mg "is_word" 24 f1 fd1) (F2 : DefAt K mg "plain_of" 29 f2 fd2) : FnOk P w K mg base CX0 3 f fd ["pieces"] spVof := by
  have G2 : FnOk P w K mg base CX0 2 f2 fd2 ["piece"] spPln := ok_pln G F2.fn F1
  have b2 : Binds K fd2 ["piece"] [] := bind1 F2.fn fun _ _ _ _ _ _ _ => rfl
  refine F.ok scVof (fun vs H Q E h => ?_) (fun cdv A outer s H vs Q E hr h => ⟨_, PSs.nox (pss_cons (ps_par (i := 1) (j := 2) (by rfl) scVof.nd rfl rfl (by decide) rfl rfl (pa_cons (pe_lst pa_nil) (pa_cons (pe_lst pa_nil) pa_nil)) (by rfl))
    (pss_cons (ps_for PassesOwn.never rfl (pi_list (pv 0)) (pg_name (i := 3) scVof.nd rfl (Or.inl rfl))
      (pss_cons (ps_if (pt_cmpR op_eq (pv 3) pe_str (nomark _))
        (pss_cons (ps_expr (pe_bm PySem.F.plainAttrs_list PySem.F.slot_list_append PySem.F.type_list_append mt_append (pv 1) (pa_cons (pe_lst pa_nil) pa_nil))) (pss_one ps_continue)) pss_nil)
      (pss_cons (ps_if (pt_cmpR op_eq (pv 3) pe_str (nomark _)) (pss_one ps_continue) pss_nil)
      (pss_cons (ps_if (pt_cmpR op_eq (pv 3) pe_str (nomark _))
        (pss_cons (ps_if (pt_cmpR (op_ee hr.units0) (pv 1) (pe_lst pa_nil) (nomark _)) (pss_one (ps_ret (pe_lst pa_nil))) pss_nil)
        (pss_one (ps_set (i := 4) scVof.nd rfl (Or.inl rfl) (pe_lst (pa_cons (pe_callTy call_tuple_of (by rfl) G.tuple (by decide +kernel) (pa_cons (pe_bm0 PySem.F.plainAttrs_list PySem.F.slot_list_pop PySem.F.type_list_pop mt_pop (pv 1)) pa_nil)) pa_nil)))))
        (pss_one (ps_set (i := 4) scVof.nd rfl (Or.inl rfl) (pe_call G2 hr rfl F2.g F2.fn.kp b2 .nil pass0 (pa_cons (pv 3) pa_nil)))))
      (pss_cons (ps_if (PW.pt (pw_or (pt_cmpR (op_ee hr.units0) (pv 4) (pe_lst pa_nil) (nomark _)) (pw_or1 (PW.pt (pw_and (pt_cmpR (op_ee hr.units0) (pv 1) (pe_lst pa_nil) (nomark _)) (pw_and1 (pt_cmpR (op_nE hr.units0) (pv 2) (pe_lst pa_nil) (nomark _))))))))
        (pss_one (ps_ret (pe_lst pa_nil))) pss_nil)
      (pss_one (ps_if (pt_cmpR (op_ee hr.units0) (pv 1) (pe_lst pa_nil) (nomark _)) (pss_one (ps_set (i := 2) scVof.nd rfl (Or.inl rfl) (pv 4)))
        (pss_one (ps_expr (pe_bm PySem.F.plainAttrs_list PySem.F.slot_list_append PySem.F.type_list_append mt_append (pe_ix ix_list (pv 1) (pe_un un_neg pe_int) (fun _ _ => rfl)) (pa_cons (pe_ix ix_list (pv 4) pe_int (fun _ _ => rfl)) pa_nil)))))))))))
    (pss_one (ps_ret (pe_ifExp (pt_cmpR (op_ee hr.units0) (pv 1) (pe_lst pa_nil) (nomark _)) (pv 2) (pe_lst pa_nil)))))), ?_⟩)
  · obtain ⟨v, _, rfl, _⟩ := h
    rfl
  obtain ⟨pa, ps, rfl, hpa, hw, hp, hQ⟩ := h
  refine ⟨by show 0 ≤ sizeLine; decide, fun oa hoa => ⟨by show 0 ≤ sizeLine; decide, fun da hda => ?_⟩⟩
  refine ⟨_, _, rfl, ?_⟩
  have nod : oa ≠ da := fun z => by rw [← z, upd_same] at hda; cases hda
  have hda0 : H da = none := by rw [upd_ne (Ne.symm nod)] at hda; exact hda
  have wps : wst [] = 0 := rfl
  have bound : ∀ {j : Nat} {st : List (List PyData)} {done : List PyData}, vfold [] [] (ps.take j) = some (st, done) → wst st + wt.wts done ≤ most := fun {j st done} h => by
    have h1 := vfold_w _ _ _ _ h
    have h2 := lens_take ps j
    have e3 : wt.wts [] = 0 := rfl
    dsimp only at h1
    omega
  have none' : ∀ (H1 : Hp), Same H H1 → valueOf ps = [] → ∀ p, H1 p = none → Q (.ref p) (L2.upd H1 p (.lst [])) := fun H1 s1 e1 p hp => by
    refine hQ _ p [] (s1.trans (same_new hp)) upd_same ?_
    rw [e1]
    exact DvL.nil
  have I0 : VI H (L2.upd (L2.upd H oa (.lst [])) da (.lst [])) oa da [] [] [] [] := ⟨same_upd (same_new hoa) hda0, hoa, fun r hr => by simp at hr, by rw [upd_ne nod]; exact upd_same, List.nodup_nil, by simp, by simp, nod, upd_same, DvL.nil, rfl, rfl, fun k r t h => by simp at h⟩
  refine ⟨_, rfl, pa, rfl, ⟨ps.map V.str, SqL.of (I0.same _ _ hpa)⟩, for_list (K := K) (a := pa) (xs := ps.map V.str) (fun j σ H' => ∃ oa da rs st dxs done v3 v4, σ = [some (.ref pa), some (.ref oa), some (.ref da), v3, v4] ∧ VI H H' oa da rs st dxs done ∧ vfold [] [] (ps.take j) = some (st, done)) ?_ ?_ ?_ ?_⟩
  · exact ⟨oa, da, [], [], [], [], none, none, rfl, I0, rfl⟩
  · rintro j σ H1 _ ⟨oa, da, rs, st, dxs, done, v3, v4, rfl, I, hv⟩
    exact SqL.of (I.same _ _ hpa)
  · rintro j x σ H1 hj ⟨oa, da, rs, st, dxs, done, v3, v4, rfl, I, hv⟩
    obtain ⟨p, hpj, rfl⟩ : ∃ p, ps[j]? = some p ∧ x = V.str p := by
      rw [List.getElem?_map] at hj
      cases e : ps[j]? with
      | none => rw [e] at hj; cases hj
      | some z =>
        rw [e] at hj
        exact ⟨z, rfl, (Option.some.inj hj).symm⟩
    have hB := bound hv
    have lrs : rs.length ≤ 4000000 := by
      have : st.length ≤ wst st := by
        clear hv I hB
        induction st with
        | nil => simp
        | cons t st ih => rw [wst_cons]; simp only [List.length_cons]; omega
      rw [I.len]
      unfold most at hB
      omega
    have stop : stp st done p = none → ∀ H2, Same H H2 → 0 ≤ sizeLine ∧ ∀ b, H2 b = none → Q (.ref b) (L2.upd H2 b (.lst [])) := fun hs H2 s2 => ⟨by decide, none' H2 s2 (valueOf_stop hv hpj hs)⟩
    have rest : ∀ (H3 : Hp) (rs3 : List Addr) (st3 : List (List PyData)) (q : Addr) (ys : List V) (ds : List PyData) (w3 : Option V), VI H H3 oa da rs3 st3 dxs done → H3 q = some (.lst ys) → q ∉ rs3 → oa ≠ q → DvL H3 ys ds → ds.all pl = true → ds.length ≤ 1 → wst st3 ≤ most →
        (ds = [] → stp st done p = none) → (∀ d, ds = [d] → stp st done p = putD st3 done d) → ∀ (D : Ends), D.nx = (fun σ H' => ∃ oa da rs st dxs done v3 v4, σ = [some (V.ref pa), some (.ref oa), some (.ref da), v3, v4] ∧ VI H H' oa da rs st dxs done ∧ vfold [] [] (ps.take (j + 1)) = some (st, done)) → D.rt = Q →
        tSeq (tIfS (tOr (tTest (tOp (rEE K) (tVar 4) (tLst tNil))) (tAnd (tTest (tOp (rEE K) (tVar 1) (tLst tNil))) (tTest (tOp (rNE K) (tVar 2) (tLst tNil))))) (tRet (tLst tNil)) tNext)
          (tIfS (tTest (tOp (rEE K) (tVar 1) (tLst tNil))) (tAsg (tVar 4) (gName 2)) (tDrop (tBM K "list" rAppend (tOp (rIxL K) (tVar 1) (tUn (rU fun i => V.int (-i)) (tC (V.int 1)))) (tCons (tOp (rIxL K) (tVar 4) (tC (V.int 0))) tNil))))
          D [some (.ref pa), some (.ref oa), some (.ref da), w3, some (.ref q)] H3 := fun H3 rs3 st3 q ys ds w3 I3 hq nq1 nq2 dy py ly ws h1 h2 D hn hr => by
      have stop' : stp st done p = none → ∀ H2, Same H H2 → tRet (tLst tNil) D [some (.ref pa), some (.ref oa), some (.ref da), w3, some (.ref q)] H2 := fun hs H2 s2 => by
        show 0 ≤ sizeLine ∧ ∀ b, H2 b = none → D.rt (.ref b) (L2.upd H2 b (.lst []))
        rw [hr]
        exact stop hs H2 s2
      refine ⟨_, rfl, by show 0 ≤ sizeLine; decide, fun p1 hp1 => ?_⟩
      have n1 := ne_of_none hq hp1
      refine ⟨q, p1, ys, rfl, rfl, n1, SqL.of (by rw [upd_ne n1]; exact hq), SqL.of upd_same, _, rfl, ?_⟩
      have I4 := I3.new (p := p1) (o := .lst []) hp1
      have hq4 : (L2.upd H3 p1 (.lst [])) q = some (.lst ys) := by rw [upd_ne n1]; exact hq
      have dy4 := dy.same (same_new (o := .lst []) hp1)
      generalize L2.upd H3 p1 (.lst []) = H4 at I4 hq4 dy4 ⊢
      clear I3 hq dy hp1 n1
      cases ds with
      | nil =>
        have ey : ys = [] := List.eq_nil_of_length_eq_zero dy4.1
        subst ey
        exact iteT (stop' (h1 rfl) _ I4.same)
      | cons d dr =>
        have edr : dr = [] := by
          cases dr with
          | nil => rfl
          | cons _ _ => simp at ly
        subst edr
        obtain ⟨y, rfl⟩ : ∃ y, ys = [y] := by
          have := dy4.1
          match ys, this with
          | [y], _ => exact ⟨y, rfl⟩
        have dvy : Dv H4 y d := dy4.2 0 y d rfl rfl
        have pd : pl d = true := by simpa using py
        have hst := h2 d rfl
        refine iteF ?_
        refine ⟨_, rfl, by show 0 ≤ sizeLine; decide, fun p2 hp2 => ?_⟩
        have n2 := ne_of_none I4.ho hp2
        refine ⟨oa, p2, _, rfl, rfl, n2, SqL.of (by rw [upd_ne n2]; exact I4.ho), SqL.of upd_same, _, rfl, ?_⟩
        have I5 := I4.new (p := p2) (o := .lst []) hp2
        have hq5 : (L2.upd H4 p2 (.lst [])) q = some (.lst [y]) := by rw [upd_ne (ne_of_none hq4 hp2)]; exact hq4
        have dv5 := dvy.same (same_new (o := .lst []) hp2)
        generalize L2.upd H4 p2 (.lst []) = H5 at I5 hq5 dv5 ⊢
        clear I4 hq4 dy4 dvy hp2 n2
        -- the second test: open_ones is empty, or not
        cases st3 with
        | nil =>
          have er : rs3 = [] := List.eq_nil_of_length_eq_zero I5.len
          subst er
          refine iteT ?_
          refine ⟨_, rfl, by show 0 ≤ sizeLine; decide, fun p3 hp3 => ?_⟩
          have n3 := ne_of_none I5.hd hp3
          refine ⟨da, p3, _, rfl, rfl, n3, SqL.of (by rw [upd_ne n3]; exact I5.hd), SqL.of upd_same, _, rfl, ?_⟩
          have I6 := I5.new (p := p3) (o := .lst []) hp3
          have hq6 : (L2.upd H5 p3 (.lst [])) q = some (.lst [y]) := by rw [upd_ne (ne_of_none hq5 hp3)]; exact hq5
          have dv6 := dv5.same (same_new (o := .lst []) hp3)
          generalize L2.upd H5 p3 (.lst []) = H6 at I6 hq6 dv6 ⊢
          clear I5 hq5 dv5 hp3 n3
          have edd : dxs.isEmpty = done.isEmpty := by
            have := I6.dd.1
            cases dxs <;> cases done <;> simp at this ⊢
          cases hde : done.isEmpty with
          | false =>
            refine ifT (by rw [edd, hde]; rfl) (stop' ?_ _ I6.same)
            rw [hst]
            show (if done.isEmpty = true then some (([], [d]) : VS) else none) = none
            rw [hde] <;> rfl
          | true =>
            refine ifF (by rw [edd, hde]; rfl) ?_
            refine ⟨_, rfl, by show 0 ≤ sizeLine; decide, fun p4 hp4 => ?_⟩
            have n4 := ne_of_none I6.ho hp4
            refine ⟨oa, p4, _, rfl, rfl, n4, SqL.of (by rw [upd_ne n4]; exact I6.ho), SqL.of upd_same, _, rfl, ?_⟩
            have I7 := I6.new (p := p4) (o := .lst []) hp4
            refine iteT ⟨_, rfl, ?_⟩
            show D.nx _ _
            rw [hn]
            refine ⟨oa, q, [], [], [y], [d], _, _, rfl, I7.turn (by rw [upd_ne (ne_of_none hq6 hp4)]; exact hq6) nq1 nq2 (DvL.one (dv6.same (same_new hp4))) (by simp [pd]), ?_⟩
            refine vfold_step hv hpj ?_
            rw [hst]
            show (if done.isEmpty = true then some (([], [d]) : VS) else none) = _
            rw [hde] <;> rfl
        | cons t st3 =>
          obtain ⟨r, rs4, rfl⟩ : ∃ r rs4, rs3 = r :: rs4 := by
            have := I5.len
            match rs3, this with
            | r :: rs4, _ => exact ⟨r, rs4, rfl⟩
          refine ifF (by simp) (iteF ?_)
          refine ⟨_, rfl, by show 0 ≤ sizeLine; decide, fun p4 hp4 => ?_⟩
          have n4 := ne_of_none I5.ho hp4
          refine ⟨oa, p4, _, rfl, rfl, n4, SqL.of (by rw [upd_ne n4]; exact I5.ho), SqL.of upd_same, _, rfl, ?_⟩
          have I7 := I5.new (p := p4) (o := .lst []) hp4
          have hq7 : (L2.upd H5 p4 (.lst [])) q = some (.lst [y]) := by rw [upd_ne (ne_of_none hq5 hp4)]; exact hq5
          have dv7 := dv5.same (same_new (o := .lst []) hp4)
          generalize L2.upd H5 p4 (.lst []) = H7 at I7 hq7 dv7 ⊢
          refine ifF (by simp) ?_
          obtain ⟨xs, hx, dx, pt⟩ := I7.it 0 r t rfl rfl
          have lx : xs.length ≤ 4000000 := by
            have := len_wts t
            rw [wst_cons] at ws
            rw [dx.1]
            unfold most at ws
            omega
          refine ⟨_, rfl, 1, rfl, oa, _, _, _, rfl, rfl, SqL.of I7.ho, atLast _ _, .inl ⟨rfl, _, SqL.of hx⟩, _, rfl, q, _, _, _, rfl, rfl, SqL.of hq7, atI_nat (j := 0) (v := y) rfl, r, xs, y, rfl, rfl, hx, most_line8 (by omega), ?_⟩
          show D.nx _ _
          rw [hn]
          refine ⟨oa, da, r :: rs4, (t ++ [d]) :: st3, dxs, done, _, _, rfl, I7.app hx dx dv7 pd, ?_⟩
          exact vfold_step hv hpj hst
    have plen : p.length ≤ 1000000 := hp p (List.mem_of_getElem? hpj)
    refine ⟨_, rfl, rfl, _, rfl, ?_⟩
    by_cases c1 : p = ("(" : Str)
    · refine ifT (decide_eq_true (congrArg V.str c1)) ?_
      refine ⟨_, rfl, .inl ⟨rfl, _, SqL.of I.ho⟩, by show 0 ≤ sizeLine; decide, fun r hr' => ?_⟩
      have n1 := ne_of_none I.ho hr'
      refine ⟨oa, _, _, rfl, rfl, by rw [upd_ne n1]; exact I.ho, most_line8 (by simp; omega), ?_⟩
      refine ⟨oa, da, r :: rs, [] :: st, dxs, done, _, _, rfl, I.push hr', ?_⟩
      refine vfold_step hv hpj ?_
      unfold stp
      rw [if_pos c1]
    refine ifF (decide_eq_false fun q => c1 (by injection q)) ?_
    refine ⟨_, rfl, rfl, _, rfl, ?_⟩
    by_cases c2 : p = (" " : Str)
    · refine ifT (decide_eq_true (congrArg V.str c2)) ?_
      refine ⟨oa, da, rs, st, dxs, done, _, _, rfl, I, ?_⟩
      refine vfold_step hv hpj ?_
      unfold stp
      rw [if_neg c1, if_pos c2]
    refine ifF (decide_eq_false fun q => c2 (by injection q)) ?_
    refine ⟨_, rfl, rfl, _, rfl, ?_⟩
    by_cases c3 : p = (")" : Str)
    · refine ifT (decide_eq_true (congrArg V.str c3)) ?_
      refine ⟨_, rfl, by show 0 ≤ sizeLine; decide, fun p1 hp1 => ?_⟩
      have n1 := ne_of_none I.ho hp1
      refine ⟨oa, p1, _, rfl, rfl, n1, SqL.of (by rw [upd_ne n1]; exact I.ho), SqL.of upd_same, _, rfl, ?_⟩
      have I2 := I.new (p := p1) (o := .lst []) hp1
      generalize L2.upd H1 p1 (.lst []) = H2 at I2 ⊢
      have es : ∀ {a : List (List PyData)}, st = a → stp st done p = (match a with | [] => none | t :: st' => putD st' done (.tuple t)) := fun {a} e => by
        unfold stp
        rw [if_neg c1, if_neg c2, if_pos c3, e]
        all_goals (cases a <;> rfl)
      cases st with
      | nil =>
        have er : rs = [] := List.eq_nil_of_length_eq_zero I2.len
        subst er
        exact iteT (stop (es rfl) _ I2.same)
      | cons t st =>
        obtain ⟨r, rs4, rfl⟩ : ∃ r rs4, rs = r :: rs4 := by
          have := I2.len
          match rs, this with
          | r :: rs4, _ => exact ⟨r, rs4, rfl⟩
        refine ifF (by simp) ?_
        have eh : (r :: rs4).reverse.map V.ref = rs4.reverse.map V.ref ++ [.ref r] := by simp
        have hho := I2.ho
        rw [eh] at hho
        refine ⟨_, rfl, .inl ⟨rfl, _, SqL.of hho⟩, oa, _, .ref r, rfl, rfl, hho, by simp, ?_⟩
        have ed : (rs4.reverse.map V.ref ++ [V.ref r]).dropLast = rs4.reverse.map V.ref := by simp
        rw [ed]
        obtain ⟨I3, xs, hx, dx, pt⟩ := I2.pop
        generalize L2.upd H2 oa (.lst (rs4.reverse.map V.ref)) = H3 at I3 hx dx ⊢
        refine ⟨r, xs, rfl, .inl ⟨SqL.of hx, fun l hl => ?_⟩⟩
        refine ⟨by show 1 ≤ sizeLine; decide, fun q hq => ?_⟩
        have I4 := (I3.new (p := l) (o := .tup xs) hl).new (p := q) (o := .lst [.ref l]) hq
        have hlq : l ≠ q := fun z => by rw [← z, upd_same] at hq; cases hq
        have nq1 : q ∉ rs4 := fun z => by
          obtain ⟨ys, e⟩ := (I3.new (p := l) (o := .tup xs) hl).ex z
          rw [hq] at e; cases e
        have nq2 : oa ≠ q := ne_of_none (I3.new (p := l) (o := .tup xs) hl).ho hq
        have dl : Dv (L2.upd (L2.upd H3 l (.tup xs)) q (.lst [.ref l])) (.ref l) (.tuple t) := by
          have dx2 : DvL (L2.upd (L2.upd H3 l (.tup xs)) q (.lst [.ref l])) xs t := dx.same ((same_new hl).trans (same_new hq))
          exact .tup (by rw [upd_ne hlq]; exact upd_same) dx2.1 dx2.2
        refine rest _ rs4 st q [.ref l] [.tuple t] _ I4 upd_same nq1 nq2 (DvL.one dl) ?_ (by simp) ?_ (fun z => by cases z) (fun d z => ?_) _ rfl rfl
        · show ([PyData.tuple t].all pl) = true
          simp [pl, pls_all, pt]
        · rw [wst_cons] at hB
          omega
        · have z : PyData.tuple t = d := by simpa using z
          rw [← z]
          exact es rfl
    · refine ifF (decide_eq_false fun q => c3 (by injection q)) ?_
      have es : stp st done p = (match plainD p with | [] => none | d :: _ => putD st done d) := by
        unfold stp
        rw [if_neg c1, if_neg c2, if_neg c3]
        all_goals (generalize plainD p = z; cases z <;> rfl)
      refine ⟨_, rfl, p, rfl, plen, fun H2 q xs s2 hq0 hq dx => ?_⟩
      have I2 := I.sameH s2
      have nq1 : q ∉ rs := fun z => by
        obtain ⟨ys, e⟩ := I.ex z
        rw [hq0] at e; cases e
      have nq2 : oa ≠ q := ne_of_none I.ho hq0
      obtain ⟨pp, lp⟩ := plainD_leaf (p := p)
      refine rest _ rs st q xs (plainD p) _ I2 hq nq1 nq2 dx pp lp ?_ (fun z => ?_) (fun d z => ?_) _ rfl rfl
      · omega
      · rw [es, z]
      · rw [es, z]
  · rintro σ H1 ⟨oa, da, rs, st, dxs, done, v3, v4, rfl, I, hv⟩
    rw [List.length_map, List.take_length] at hv
    refine ⟨_, rfl, by show 0 ≤ sizeLine; decide, fun p hp => ?_⟩
    refine ⟨oa, p, _, rfl, rfl, ne_of_none I.ho hp, SqL.of (by rw [upd_ne (ne_of_none I.ho hp)]; exact I.ho), SqL.of upd_same, _, rfl, ?_⟩
    have I2 := I.new (p := p) (o := .lst []) hp
    cases st with
    | nil =>
      have er : rs = [] := List.eq_nil_of_length_eq_zero I.len
      subst er
      refine iteT ⟨_, rfl, hQ _ da dxs I2.same I2.hd ?_⟩
      have : valueOf ps = done := by unfold valueOf; rw [hv]
      rw [this]
      exact I2.dd
    | cons t st =>
      have ner : rs ≠ [] := fun z => by have := I.len; rw [z] at this; simp at this
      refine ifF (by simp [ner]) ⟨by show 0 ≤ sizeLine; decide, fun q hq => ?_⟩
      refine none' _ I2.same ?_ q hq
      unfold valueOf
      rw [hv]
end
end K88
namespace K88
open PySem PySem.Spec PyProof.Rows L2 Evl
theorem sp_lens : ∀ (l acc : List Nat), ((sp acc l).map List.length).sum = acc.length + l.length
  | [], acc => by
    simp only [sp]
    split
    · rename_i h
      rw [h]; rfl
    · simp
  | c :: r, acc => by
    simp only [sp]
    split
    · have := sp_lens r []
      simp only [List.length_nil, Nat.zero_add] at this
      split
      · rename_i h
        rw [h]
        simp [this]
        omega
      · simp [this]
        omega
    · rw [sp_lens r (acc ++ [c])]
      simp
      omega
theorem lens_pieces (s : Str) : lens (piecesS s) = s.length := by
  have := sp_lens s.cps.toList []
  unfold piecesS lens
  rw [List.map_map]
  have e : ((fun x : Str => x.length) ∘ SX) = List.length := by
    funext l
    simp [Str.length]
  rw [show (List.map ((·.length) ∘ SX) (sp [] s.cps.toList)) = (sp [] s.cps.toList).map List.length from by rw [e]]
  rw [this]
  simp [Str.length]
theorem len_pieces (s : Str) : (piecesS s).length ≤ s.length := by
  have := sp_len s.cps.toList []
  rw [if_pos rfl] at this
  unfold piecesS
  rw [List.length_map]
  have e : s.length = s.cps.toList.length := by simp [Str.length]
  omega
theorem lens_get : ∀ {l : List Str} {p : Str}, p ∈ l → p.length ≤ lens l
  | [], p, h => by simp at h
  | c :: r, p, h => by
    rw [lens_cons]
    rcases List.mem_cons.mp h with e | e
    · rw [e]; omega
    · have := lens_get e
      omega
def readV (s : Str) : Option PyData := match valueOf (piecesS s) with
  | [] => none
  | d :: _ => if val d 59 = true then (if textD d = s then some d else none) else none
theorem scRd : FnScope ["text", "found"] ["text"] (defScope (top 31)) := ⟨rfl, rfl, rfl, by decide +kernel, rfl, by decide +kernel, by decide +kernel⟩
def spRead (C : Addr) : Sp := fun vs H Q E => ∃ x, vs = [x] ∧ ((∃ s : Str, x = .str s ∧ s.length ≤ 200000 ∧ (∀ d, readV s = some d → ∀ H' v, Same H H' → Dv H' v d → Q v H') ∧ (readV s = none → Rais C E H)) ∨ ((x = .non ∨ ∃ i, x = .int i) ∧ Rais C E H))
structure Defs (K : PySem.W.Frag) (mg : Str → Option Value) (f1 f2 f3 f4 f5 f6 f7 : Addr) (d1 d2 d3 d4 d5 d6 d7 : FuncData) : Prop where
  word : DefAt K mg "is_word" 24 f1 d1
  fig : DefAt K mg "is_figure" 25 f2 d2
  val : DefAt K mg "is_value" 26 f3 d3
  text : DefAt K mg "value_text" 27 f4 d4
  pcs : DefAt K mg "pieces_of" 28 f5 d5
  pln : DefAt K mg "plain_of" 29 f6 d6
  vof : DefAt K mg "value_of" 30 f7 d7
section
variable {P : Program} {w : World} {K : PySem.W.Frag} {mg : Str → Option Value} {base : Heap} {f C fI f1 f2 f3 f4 f5 f6 f7 : Addr} {fd d1 d2 d3 d4 d5 d6 d7 : FuncData}
theorem ok_read (G : Gl8 mg) (T : ErrT P K mg C fI) (D : Defs K mg f1 f2 f3 f4 f5 f6 f7 d1 d2 d3 d4 d5 d6 d7) (F : FnP K "read_value" 31 f fd) : FnOk P w K mg base (L2.CX P w) 4 f fd ["text"] (spRead C) := by
  have G3 : FnOk P w K mg base CX0 2 f3 d3 ["thing"] spVal := ok_val G D.val.fn D.word D.fig
  have G4 : FnOk P w K mg base (L2.CX P w) 3 f4 d4 ["value"] (spText C) := ok_text G T D.text.fn D.word D.fig D.val
  have G5 : FnOk P w K mg base CX0 1 f5 d5 ["text"] spPcs := ok_pcs G D.pcs.fn
  have G7 : FnOk P w K mg base CX0 3 f7 d7 ["pieces"] spVof := ok_vof G D.vof.fn D.word D.pln
  have b3 : Binds K d3 ["thing"] [] := bind1 D.val.fn fun _ _ _ _ _ _ _ => rfl
  have b4 : Binds K d4 ["value"] [] := bind1 D.text.fn fun _ _ _ _ _ _ _ => rfl
  have b5 : Binds K d5 ["text"] [] := bind1 D.pcs.fn fun _ _ _ _ _ _ _ => rfl
  have b7 : Binds K d7 ["pieces"] [] := bind1 D.vof.fn fun _ _ _ _ _ _ _ => rfl
  refine F.ok scRd (fun vs H Q E h => ?_) (fun cdv A outer s H vs Q E hr h => ⟨_, pss_cons (ps_if (pt_not (pt_val (pe_callB call_isi rfl G.isi (by decide +kernel) (pa_cons (pv 0) (pa_cons (pe_bltn (v := .ty "str") (u := .type "str") rfl G.str (by decide +kernel) rfl) pa_nil)))))
      (pss_one (ps_raise rfl (takes_of rfl rfl rfl rfl) (pmk_err T PySem.ErrX.bound_line (by decide) (by decide) (by decide) (by decide) (by decide) hr (pa_cons pe_str (pa_cons pe_int pa_nil)) rfl (by decide)))) pss_nil)
    (pss_cons (ps_set (i := 1) scRd.nd rfl (Or.inl rfl) (pe_call G7 hr rfl D.vof.g D.vof.fn.kp b7 .nil pass0 (pa_cons (pe_call G5 (hr.mono (by decide)) rfl D.pcs.g D.pcs.fn.kp b5 .nil pass0 (pa_cons (pv 0) pa_nil)) pa_nil)))
    (pss_cons (ps_if (PW.pt (pw_or (pt_cmpR (op_ee hr.units0) (pv 1) (pe_lst pa_nil) (nomark _)) (pw_or (pt_not (pt_val (pe_call G3 (hr.mono (by decide)) rfl D.val.g D.val.fn.kp b3 .nil pass0 (pa_cons (pe_ix ix_list (pv 1) pe_int (fun _ _ => rfl)) pa_nil))))
        (pw_or1 (pt_cmpR op_ne (pe_call G4 hr rfl D.text.g D.text.fn.kp b4 .nil (passes_call (takes_of rfl rfl rfl rfl) (fun _ _ _ _ h => h)) (pa_cons (pe_ix ix_list (pv 1) pe_int (fun _ _ => rfl)) pa_nil)) (pv 0) (nomark _))))))
      (pss_one (ps_raise rfl (takes_of rfl rfl rfl rfl) (pmk_err T PySem.ErrX.bound_line (by decide) (by decide) (by decide) (by decide) (by decide) hr (pa_cons pe_str (pa_cons pe_int pa_nil)) rfl (by decide)))) pss_nil)
    (pss_one (ps_ret (pe_ix ix_list (pv 1) pe_int (fun _ _ => rfl)))))), ?_⟩)
  · obtain ⟨v, rfl, _⟩ := h
    rfl
  obtain ⟨x, rfl, h⟩ := h
  refine ⟨x, rfl, ?_⟩
  rcases h with ⟨z, rfl, hz, hQ, hE⟩ | ⟨hx, hE⟩
  · refine ⟨_, _, _, _, true, rfl, .ty _, .base (.str z), kit_ty (kit_yes0 "str" (by simp)), true, rfl, iteF ?_⟩
    have lp := len_pieces z
    have ll := lens_pieces z
    refine ⟨_, rfl, z, rfl, by omega, fun H1 pa s1 hp0 hpa => ?_⟩
    refine ⟨pa, piecesS z, rfl, hpa, by unfold most; omega, fun p hp => by have := lens_get hp; omega, fun H2 q xs s2 hq dx => ?_⟩
    have s12 := s1.trans s2
    have rais : ∀ H3, Same H H3 → readV z = none → tMkE "line" C (tCons (tC (V.str ("no text of a value" : Str))) (tCons (tC (.int 0)) tNil)) [some (.str z), some (.ref q)] H3 fun cls d H' => E cls d H' := fun H3 s3 hn => ⟨_, _, rfl, fun dd hdd => hE hn H3 dd s3 hdd⟩
    refine ⟨_, rfl, by show 0 ≤ sizeLine; decide, fun p hp => ?_⟩
    have n1 := ne_of_none hq hp
    refine ⟨q, p, xs, rfl, rfl, n1, SqL.of (by rw [upd_ne n1]; exact hq), SqL.of upd_same, _, rfl, ?_⟩
    have s3 : Same H (L2.upd H2 p (.lst [])) := s12.trans (same_new hp)
    have hq3 : (L2.upd H2 p (.lst [])) q = some (.lst xs) := by rw [upd_ne n1]; exact hq
    have dx3 := dx.same (same_new (o := .lst []) hp)
    generalize L2.upd H2 p (.lst []) = H3 at s3 hq3 dx3 ⊢
    cases hvo : valueOf (piecesS z) with
    | nil =>
      rw [hvo] at dx3
      have ex : xs = [] := List.eq_nil_of_length_eq_zero dx3.1
      subst ex
      exact iteT (rais H3 s3 (by unfold readV; rw [hvo]))
    | cons d r =>
      rw [hvo] at dx3
      obtain ⟨y, ys, rfl⟩ : ∃ y ys, xs = y :: ys := by
        have := dx3.1
        match xs, this with
        | y :: ys, _ => exact ⟨y, ys, rfl⟩
      have dy : Dv H3 y d := dx3.2 0 y d rfl rfl
      have wd : wt d ≤ most := by
        have := valueOf_some hvo
        unfold most
        omega
      refine iteF ?_
      refine ⟨_, rfl, q, _, _, _, rfl, rfl, SqL.of hq3, atI_nat (j := 0) (v := y) rfl, y, d, rfl, dy, wd, fun H4 s4 => ⟨_, rfl, ?_⟩⟩
      have hq4 := s4 _ _ hq3
      cases hv : val d 59 with
      | false => exact iteT (rais H4 (s3.trans s4) (by unfold readV; rw [hvo]; simp [hv]))
      | true =>
        refine iteF ?_
        refine ⟨_, rfl, q, _, _, _, rfl, rfl, SqL.of hq4, atI_nat (j := 0) (v := y) rfl, y, d, rfl, dy.same s4, wd, fun _ H5 s5 => ?_, fun z => by rw [hv] at z; cases z⟩
        refine ⟨_, rfl, rfl, _, rfl, ?_⟩
        by_cases ht : textD d = z
        · refine ifF (by rw [decide_eq_true (congrArg V.str ht)]; rfl) ?_
          refine ⟨_, rfl, q, _, _, _, rfl, rfl, SqL.of (s5 _ _ hq4), atI_nat (j := 0) (v := y) rfl, ?_⟩
          refine hQ d ?_ H5 y ((s3.trans s4).trans s5) ((dy.same s4).same s5)
          unfold readV
          rw [hvo]
          simp [hv, ht]
        · refine ifT (by rw [decide_eq_false (show ¬ V.str (textD d) = V.str z from fun q => ht (by injection q))]; rfl) ?_
          exact rais H5 ((s3.trans s4).trans s5) (by unfold readV; rw [hvo]; simp [hv, ht])
  · have key : ∃ t, TyX K H x (.type t) ∧ kitB t "str" = some false := by
      rcases hx with rfl | ⟨i, rfl⟩
      · exact ⟨_, .base .non, by decide +kernel⟩
      · exact ⟨_, .base (.int i), by decide +kernel⟩
    obtain ⟨t, ht, hk⟩ := key
    refine ⟨_, _, _, _, false, rfl, .ty _, ht, kit_ty hk, false, rfl, iteT ?_⟩
    exact ⟨_, _, rfl, fun dd hdd => hE H dd (Same.refl _) hdd⟩
end
end K88
/-! The law's state of draws: _law_begun, _law_mixed, _law_draw, _law_pick. -/
namespace K88
open PySem PySem.Spec PyProof.Rows L2 Evl
def stK (g c : Addr) (r t : Int) : List (Key × V) := [(Sum.inr "great", .ref g), (Sum.inr "cells", .ref c), (Sum.inr "rest", .int r), (Sum.inr "turn", .int t)]
theorem st_great {g c : Addr} {r t : Int} : valV (stK g c r t) (Sum.inr "great") = some (.ref g) := by kernel_rfl
theorem st_cells {g c : Addr} {r t : Int} : valV (stK g c r t) (Sum.inr "cells") = some (.ref c) := by kernel_rfl
theorem st_rest {g c : Addr} {r t : Int} : valV (stK g c r t) (Sum.inr "rest") = some (.int r) := by kernel_rfl
theorem st_turn {g c : Addr} {r t : Int} : valV (stK g c r t) (Sum.inr "turn") = some (.int t) := by kernel_rfl
theorem put_rest {g c : Addr} {r t r' : Int} : putK (stK g c r t) (Sum.inr "rest") (.int r') = stK g c r' t := by kernel_rfl
theorem put_turn {g c : Addr} {r t t' : Int} : putK (stK g c r t) (Sum.inr "turn") (.int t') = stK g c r t' := by kernel_rfl
/-- the state at sa: its lists at g and c; at least b more draws -/
structure StOk (H : Hp) (sa g c : Addr) (b : Nat) : Prop where
  st : ∃ r t : Int, H sa = some (.dK (stK g c r t)) ∧ 0 ≤ r ∧ 0 ≤ t ∧ t + b ≤ 1000000
  gr : ∃ ns : List Int, H g = some (.lst (ns.map V.int)) ∧ ∀ n ∈ ns, 0 ≤ n
  ce : ∃ ns : List Int, H c = some (.lst (ns.map V.int)) ∧ ∀ n ∈ ns, 0 ≤ n
  n1 : sa ≠ g
  n2 : sa ≠ c
  n3 : g ≠ c
/-- all but the state and its list of great ones stands -/
def Kp (sa g : Addr) (H H' : Hp) : Prop := ∀ b o, b ≠ sa → b ≠ g → H b = some o → H' b = some o
theorem Kp.refl {sa g : Addr} (H : Hp) : Kp sa g H H := fun _ _ _ _ h => h
theorem Kp.trans {sa g : Addr} {H H1 H2 : Hp} (a : Kp sa g H H1) (b : Kp sa g H1 H2) : Kp sa g H H2 := fun x o h1 h2 h => b x o h1 h2 (a x o h1 h2 h)
theorem Kp.of {sa g : Addr} {H H' : Hp} (e : Same H H') : Kp sa g H H' := fun x o _ _ h => e x o h
theorem StOk.weak {H : Hp} {sa g c : Addr} {b b' : Nat} (S : StOk H sa g c b) (h : b' ≤ b) : StOk H sa g c b' := by
  obtain ⟨⟨r, t, h1, h2, h3, h4⟩, gr, ce, n1, n2, n3⟩ := S
  exact ⟨⟨r, t, h1, h2, h3, by omega⟩, gr, ce, n1, n2, n3⟩
theorem StOk.same {H H' : Hp} {sa g c : Addr} {b : Nat} (S : StOk H sa g c b) (e : Same H H') : StOk H' sa g c b := by
  obtain ⟨⟨r, t, h1, h2, h3, h4⟩, ⟨ns, g1, g2⟩, ⟨ms, c1, c2⟩, n1, n2, n3⟩ := S
  exact ⟨⟨r, t, e _ _ h1, h2, h3, h4⟩, ⟨ns, e _ _ g1, g2⟩, ⟨ms, e _ _ c1, c2⟩, n1, n2, n3⟩
theorem Kp.text {H H' : Hp} {sa g c : Addr} {b : Nat} (S : StOk H sa g c b) (k : Kp sa g H H') : TExt H H' := fun x xs h => by
  obtain ⟨⟨r, t, h1, _⟩, ⟨ns, g1, _⟩, _⟩ := S
  refine k x _ (fun z => ?_) (fun z => ?_) h
  · rw [z, h1] at h; cases h
  · rw [z, g1] at h; cases h
theorem get_great {H : Hp} {sa g c : Addr} {r t : Int} (h : H sa = some (.dK (stK g c r t))) : DGet H sa (.str "great") (some (.ref g)) := by
  have q := DGet.k (k := Sum.inr "great") h
  rw [st_great] at q
  exact q
theorem get_cells {H : Hp} {sa g c : Addr} {r t : Int} (h : H sa = some (.dK (stK g c r t))) : DGet H sa (.str "cells") (some (.ref c)) := by
  have q := DGet.k (k := Sum.inr "cells") h
  rw [st_cells] at q
  exact q
theorem get_rest {H : Hp} {sa g c : Addr} {r t : Int} (h : H sa = some (.dK (stK g c r t))) : DGet H sa (.str "rest") (some (.int r)) := by
  have q := DGet.k (k := Sum.inr "rest") h
  rw [st_rest] at q
  exact q
theorem get_turn {H : Hp} {sa g c : Addr} {r t : Int} (h : H sa = some (.dK (stK g c r t))) : DGet H sa (.str "turn") (some (.int t)) := by
  have q := DGet.k (k := Sum.inr "turn") h
  rw [st_turn] at q
  exact q
theorem put_rest' {H : Hp} {sa g c : Addr} {r t : Int} (r' : Int) (h : H sa = some (.dK (stK g c r t))) : DPut H sa (.str "rest") (.int r') (L2.upd H sa (.dK (stK g c r' t))) := by
  have q := DPut.k (k := Sum.inr "rest") (v := .int r') h (by show 4 < sizeLine; decide)
  rw [put_rest] at q
  exact q
theorem put_turn' {H : Hp} {sa g c : Addr} {r t : Int} (t' : Int) (h : H sa = some (.dK (stK g c r t))) : DPut H sa (.str "turn") (.int t') (L2.upd H sa (.dK (stK g c r t'))) := by
  have q := DPut.k (k := Sum.inr "turn") (v := .int t') h (by show 4 < sizeLine; decide)
  rw [put_turn] at q
  exact q
theorem kp_sa {sa g : Addr} {H : Hp} {o : HO} : Kp sa g H (L2.upd H sa o) := fun x _ h1 _ h => by rw [upd_ne h1]; exact h
theorem kp_g {sa g : Addr} {H : Hp} {o : HO} : Kp sa g H (L2.upd H g o) := fun x _ _ h1 h => by rw [upd_ne h1]; exact h
theorem scMix : FnScope ["state", "turn", "found", "prime", "blend", "cell"] ["state"] (defScope (top 34)) := ⟨rfl, rfl, rfl, by decide +kernel, rfl, by decide +kernel, by decide +kernel⟩
theorem scDraw : FnScope ["state", "room", "found"] ["state", "room"] (defScope (top 35)) := ⟨rfl, rfl, rfl, by decide +kernel, rfl, by decide +kernel, by decide +kernel⟩
theorem scPick : FnScope ["state", "some"] ["state", "some"] (defScope (top 36)) := ⟨rfl, rfl, rfl, by decide +kernel, rfl, by decide +kernel, by decide +kernel⟩
def spMix : Sp := fun vs H Q E => ∃ sa g c b, vs = [.ref sa] ∧ StOk H sa g c (b + 1) ∧ ∀ H' i, StOk H' sa g c b → Kp sa g H H' → 0 ≤ i → Q (.int i) H'
def spDraw : Sp := fun vs H Q E => ∃ sa g c b, ∃ n : Int, vs = [.ref sa, .int n] ∧ 0 < n ∧ n < 1073741824 ∧ StOk H sa g c (b + 1) ∧ ∀ H' i, StOk H' sa g c b → Kp sa g H H' → 0 ≤ i → i < n → Q (.int i) H'
def spPick : Sp := fun vs H Q E => ∃ sa g c b l xs, vs = [.ref sa, .ref l] ∧ H l = some (.lst xs) ∧ l ≠ sa ∧ l ≠ g ∧ xs ≠ [] ∧ xs.length ≤ 1000 ∧ StOk H sa g c (b + 1) ∧ ∀ H' x, StOk H' sa g c b → Kp sa g H H' → x ∈ xs → Q x H'
section
variable {P : Program} {w : World} {K : PySem.W.Frag} {mg : Str → Option Value} {base : Heap} {f f1 f2 : Addr} {fd fd1 fd2 : FuncData}
theorem ok_mix (G : Gl8 mg) (F : FnP K "_law_mixed" 34 f fd) : FnOk P w K mg base CX0 1 f fd ["state"] spMix := by
  refine F.ok scMix (fun vs H Q E h => ?_) (fun cdv A outer s H vs Q E hr h => ⟨_, PSs.nox (pss_cons (ps_par (i := 1) (j := 2) (by rfl) scMix.nd rfl rfl (by decide) rfl rfl (pa_cons (pe_op op_add (pe_dget (hu_of hr) (pv 0) pe_str (fun _ _ => rfl)) pe_int) (pa_cons pe_int pa_nil)) (by rfl))
    (pss_cons (ps_dput (hu_of hr) (pv 0) pe_str (pv 1) rfl)
    (pss_cons (ps_for PassesOwn.never rfl (pi_list (pe_lst (pa_cons pe_int (pa_cons pe_int (pa_cons pe_int (pa_cons pe_int pa_nil)))))) (pg_name (i := 3) scMix.nd rfl (Or.inl rfl))
      (pss_cons (ps_set (i := 4) scMix.nd rfl (Or.inl rfl) (pe_op op_add (pe_op op_mul pe_int (pv 1)) (pe_op op_fdivN (pv 3) pe_int)))
      (pss_cons (ps_for PassesOwn.never rfl (pi_list (pe_dget (hu_of hr) (pv 0) pe_str (fun _ _ => rfl))) (pg_name (i := 5) scMix.nd rfl (Or.inl rfl))
        (pss_one (ps_set (i := 4) scMix.nd rfl (Or.inl rfl) (pe_op op_modN (pe_callTy call_int1 (by rfl) G.int (by decide +kernel) (pa_cons (pe_op op_add (pe_op op_add (pe_op op_mul (pv 4) pe_int) (pv 5)) (pv 1)) pa_nil)) (pv 3)))))
      (pss_one (ps_set (i := 2) scMix.nd rfl (Or.inl rfl) (pe_op op_add (pe_op op_mul (pv 2) pe_int) (pe_op op_modN (pe_callTy call_int1 (by rfl) G.int (by decide +kernel) (pa_cons (pe_op op_pow (pv 4) pe_int) pa_nil)) (pv 3))))))))
    (pss_one (ps_ret (pv 2)))))), ?_⟩)
  · obtain ⟨_, _, _, _, rfl, _⟩ := h
    rfl
  obtain ⟨sa, g, c, b, rfl, S, hQ⟩ := h
  obtain ⟨⟨r, t, e1, e2, e3, e4⟩, ⟨ns, g1, g2⟩, ⟨ms, c1, c2⟩, n1, n2, n3⟩ := S
  refine ⟨_, rfl, sa, _, rfl, get_turn e1, _, _, rfl, rfl, _, _, rfl, ?_⟩
  refine ⟨_, rfl, _, rfl, sa, _, rfl, put_turn' (t + 1) e1, ?_⟩
  have S1 : StOk (L2.upd H sa (.dK (stK g c r (t + 1)))) sa g c b := ⟨⟨r, t + 1, upd_same, e2, by omega, by omega⟩, ⟨ns, by rw [upd_ne (Ne.symm n1)]; exact g1, g2⟩, ⟨ms, by rw [upd_ne (Ne.symm n2)]; exact c1, c2⟩, n1, n2, n3⟩
  have k1 : Kp sa g H (L2.upd H sa (.dK (stK g c r (t + 1)))) := kp_sa
  have e1' : (L2.upd H sa (.dK (stK g c r (t + 1)))) sa = some (.dK (stK g c r (t + 1))) := upd_same
  have c1' : (L2.upd H sa (.dK (stK g c r (t + 1)))) c = some (.lst (ms.map V.int)) := by rw [upd_ne (Ne.symm n2)]; exact c1
  generalize L2.upd H sa (.dK (stK g c r (t + 1))) = H1 at S1 k1 e1' c1' ⊢
  refine ⟨by show 4 ≤ sizeLine; decide, fun l hl => ?_⟩
  have S2 := S1.same (same_new (o := .lst [V.int 2147483629, .int 2147483587, .int 2147483579, .int 2147483563]) hl)
  have k2 := k1.trans (Kp.of (same_new (o := .lst [V.int 2147483629, .int 2147483587, .int 2147483579, .int 2147483563]) hl))
  have e2' := same_new (o := .lst [V.int 2147483629, .int 2147483587, .int 2147483579, .int 2147483563]) hl _ _ e1'
  have c2' := same_new (o := .lst [V.int 2147483629, .int 2147483587, .int 2147483579, .int 2147483563]) hl _ _ c1'
  have hl2 : (L2.upd H1 l (.lst [V.int 2147483629, .int 2147483587, .int 2147483579, .int 2147483563])) l = some (.lst [V.int 2147483629, .int 2147483587, .int 2147483579, .int 2147483563]) := upd_same
  generalize L2.upd H1 l (.lst [V.int 2147483629, .int 2147483587, .int 2147483579, .int 2147483563]) = H2 at S2 k2 e2' c2' hl2 ⊢
  refine ⟨l, rfl, ⟨_, SqL.of hl2⟩, for_list (K := K) (a := l) (xs := [V.int 2147483629, .int 2147483587, .int 2147483579, .int 2147483563]) (fun i σ H' => H' = H2 ∧ ∃ (fo : Int) (v3 v4 v5 : Option V), σ = [some (.ref sa), some (.int (t + 1)), some (.int fo), v3, v4, v5] ∧ 0 ≤ fo) ?_ ?_ ?_ ?_⟩
  · exact ⟨rfl, 0, none, none, none, rfl, Int.le_refl _⟩
  · rintro i σ H' _ ⟨rfl, _⟩
    exact SqL.of hl2
  · rintro i x σ H' hx ⟨rfl, fo, v3, v4, v5, rfl, f0⟩
    obtain ⟨p, rfl, p0, p1⟩ : ∃ p : Int, x = .int p ∧ 0 < p ∧ p < 2147483648 := by
      match i, hx with
      | 0, hx => exact ⟨_, (Option.some.inj hx).symm, by decide, by decide⟩
      | 1, hx => exact ⟨_, (Option.some.inj hx).symm, by decide, by decide⟩
      | 2, hx => exact ⟨_, (Option.some.inj hx).symm, by decide, by decide⟩
      | 3, hx => exact ⟨_, (Option.some.inj hx).symm, by decide, by decide⟩
      | i + 4, hx => simp at hx
    have q0 : 0 ≤ p.fdiv 41 ∧ p.fdiv 41 < 2147483648 := by
      rw [Int.fdiv_eq_ediv_of_nonneg p (by decide)]
      omega
    refine ⟨_, rfl, 69621, t + 1, rfl, rfl, .inl ⟨by decide, by decide⟩, _, rfl, p, 41, rfl, rfl, ⟨by decide, by decide⟩, _, _, rfl, rfl, ?_⟩
    refine ⟨_, rfl, sa, _, rfl, get_cells e2', c, rfl, ⟨_, SqL.of c2'⟩, for_list (K := K) (a := c) (xs := ms.map V.int) (fun j σ H3 => H3 = H' ∧ ∃ (bl : Int) (v5 : Option V), σ = [some (.ref sa), some (.int (t + 1)), some (.int fo), some (.int p), some (.int bl), v5] ∧ 0 ≤ bl ∧ bl < 1000000000000000) ?_ ?_ ?_ ?_⟩
    · refine ⟨rfl, _, v5, rfl, ?_, ?_⟩ <;> omega
    · rintro j σ H3 _ ⟨rfl, _⟩
      exact SqL.of c2'
    · rintro j x σ H3 hx ⟨rfl, bl, w5, rfl, b0, b1⟩
      obtain ⟨m, rfl, m0⟩ : ∃ m : Int, x = .int m ∧ 0 ≤ m := by
        rw [List.getElem?_map] at hx
        cases e : ms[j]? with
        | none => rw [e] at hx; cases hx
        | some z =>
          rw [e] at hx
          exact ⟨z, (Option.some.inj hx).symm, c2 z (List.mem_of_getElem? e)⟩
      refine ⟨_, rfl, bl, 48271, rfl, rfl, .inr ⟨by decide, by decide⟩, _, rfl, _, _, rfl, rfl, _, rfl, _, _, rfl, rfl, .inl ⟨_, rfl, _, rfl, _, _, rfl, rfl, by omega, ?_⟩⟩
      refine ⟨rfl, _, some (.int m), rfl, ?_, ?_⟩
      · rw [Int.fmod_eq_emod_of_nonneg _ (by omega)]
        exact Int.emod_nonneg _ (by omega)
      · rw [Int.fmod_eq_emod_of_nonneg _ (by omega)]
        have := Int.emod_lt_of_pos (bl * 48271 + m + (t + 1)) p0
        omega
    · rintro σ H3 ⟨rfl, bl, w5, rfl, b0, b1⟩
      refine ⟨_, rfl, fo, 2147483659, rfl, rfl, .inr ⟨by decide, by decide⟩, _, rfl, bl, 5, rfl, rfl, ⟨by decide, by decide, by omega⟩, .inl ⟨_, rfl, _, rfl, _, _, rfl, rfl, by omega, _, _, rfl, rfl, ?_⟩⟩
      refine ⟨rfl, _, _, _, _, rfl, ?_⟩
      have h5 : 0 ≤ bl ^ (5 : Int).toNat := Int.pow_nonneg b0
      have h6 : 0 ≤ (bl ^ (5 : Int).toNat).fmod p := by
        rw [Int.fmod_eq_emod_of_nonneg _ (by omega)]
        exact Int.emod_nonneg _ (by omega)
      omega
  · rintro σ H' ⟨rfl, fo, v3, v4, v5, rfl, f0⟩
    exact ⟨_, rfl, hQ H' fo S2 k2 f0⟩
theorem ok_draw (G : Gl8 mg) (F : FnP K "_law_draw" 35 f fd) (F1 : DefAt K mg "_law_mixed" 34 f1 fd1) : FnOk P w K mg base CX0 2 f fd ["state", "room"] spDraw := by
  have G1 : FnOk P w K mg base CX0 1 f1 fd1 ["state"] spMix := ok_mix G F1.fn
  have b1 : Binds K fd1 ["state"] [] := bind1 F1.fn fun _ _ _ _ _ _ _ => rfl
  refine F.ok scDraw (fun vs H Q E h => ?_) (fun cdv A outer s H vs Q E hr h => ⟨_, PSs.nox (pss_cons (ps_if (pt_cmpR op_eq (pe_dget (hu_of hr) (pv 0) pe_str (fun _ _ => rfl)) pe_int (nomark _))
      (pss_one (ps_dput (hu_of hr) (pv 0) pe_str (pe_ifExp (pt_cmpR (op_nE hr.units0) (pe_dget (hu_of hr) (pv 0) pe_str (fun _ _ => rfl)) (pe_lst pa_nil) (nomark _))
        (pe_bm PySem.F.plainAttrs_list PySem.F.slot_list_pop PySem.F.type_list_pop mt_popAt (pe_dget (hu_of hr) (pv 0) pe_str (fun _ _ => rfl)) (pa_cons pe_int pa_nil)) (pe_call G1 hr rfl F1.g F1.fn.kp b1 .nil pass0 (pa_cons (pv 0) pa_nil))) rfl)) pss_nil)
    (pss_cons (ps_set (i := 2) scDraw.nd rfl (Or.inl rfl) (pe_op op_modN (pe_callTy call_int1 (by rfl) G.int (by decide +kernel) (pa_cons (pe_dget (hu_of hr) (pv 0) pe_str (fun _ _ => rfl)) pa_nil)) (pv 1)))
    (pss_cons (ps_dput (hu_of hr) (pv 0) pe_str (pe_op op_fdivN (pe_dget (hu_of hr) (pv 0) pe_str (fun _ _ => rfl)) (pv 1)) rfl)
    (pss_one (ps_ret (pv 2)))))), ?_⟩)
  · obtain ⟨_, _, _, _, _, rfl, _⟩ := h
    rfl
  obtain ⟨sa, g, c, b, n, rfl, h1, h2, S, hQ⟩ := h
  have rest : ∀ (H1 : Hp), StOk H1 sa g c b → Kp sa g H H1 → tSeq
      (tAsg (tOp (rI (fun x j => j ≠ 0) fun i j => V.int (i.fmod j)) (tCB (fun xs H Q => (∃ i, xs = [V.int i] ∧ Q (V.int i) H) ∨ ∃ k, xs = [V.bl k] ∧ Q (V.int (if k = true then 1 else 0)) H) (tCons (tDGet (tVar 0) (tC (V.str (Str.ofString "rest")))) tNil)) (tVar 1)) (gName 2))
      (tSeq (sDPut (tVar 0) (tC (V.str (Str.ofString "rest"))) (tOp (rI CDivN fun i j => V.int (i.fdiv j)) (tDGet (tVar 0) (tC (V.str (Str.ofString "rest")))) (tVar 1))) (tRet (tVar 2)))
      { nx := fun x H' => Q V.non H', rt := Q } [some (.ref sa), some (.int n), none] H1 := fun H1 S1 k1 => by
    obtain ⟨⟨r, t, e1, e2, e3, e4⟩, ⟨ns, g1, g2⟩, ⟨ms, c1, c2⟩, n1, n2, n3⟩ := S1
    refine ⟨_, rfl, sa, _, rfl, get_rest e1, .inl ⟨r, rfl, _, rfl, _, _, rfl, rfl, by omega, ?_⟩⟩
    refine ⟨_, rfl, sa, _, rfl, get_rest e1, _, rfl, _, _, rfl, rfl, ⟨by omega, by omega⟩, _, rfl, sa, _, rfl, put_rest' _ e1, _, rfl, ?_⟩
    refine hQ _ _ ⟨⟨_, t, upd_same, ?_, e3, e4⟩, ⟨ns, by rw [upd_ne (Ne.symm n1)]; exact g1, g2⟩, ⟨ms, by rw [upd_ne (Ne.symm n2)]; exact c1, c2⟩, n1, n2, n3⟩ (k1.trans kp_sa) ?_ ?_
    · rw [Int.fdiv_eq_ediv_of_nonneg r (by omega)]
      exact Int.ediv_nonneg e2 (by omega)
    · rw [Int.fmod_eq_emod_of_nonneg r (by omega)]
      exact Int.emod_nonneg r (by omega)
    · rw [Int.fmod_eq_emod_of_nonneg r (by omega)]
      exact Int.emod_lt_of_pos r h1
  obtain ⟨⟨r, t, e1, e2, e3, e4⟩, ⟨ns, g1, g2⟩, ⟨ms, c1, c2⟩, n1, n2, n3⟩ := id S
  refine ⟨_, rfl, sa, _, rfl, get_rest e1, rfl, _, rfl, ?_⟩
  by_cases hr0 : r = 0
  · refine ifT (decide_eq_true (by rw [hr0])) ?_
    refine ⟨_, rfl, sa, _, rfl, get_great e1, by show 0 ≤ sizeLine; decide, fun p hp => ?_⟩
    have np := ne_of_none g1 hp
    refine ⟨g, p, _, rfl, rfl, np, SqL.of (by rw [upd_ne np]; exact g1), SqL.of upd_same, _, rfl, ?_⟩
    have S2 := S.same (same_new (o := .lst []) hp)
    have k2 : Kp sa g H (L2.upd H p (.lst [])) := Kp.of (same_new hp)
    have e1' : (L2.upd H p (.lst [])) sa = some (.dK (stK g c r t)) := same_new hp _ _ e1
    have g1' : (L2.upd H p (.lst [])) g = some (.lst (ns.map V.int)) := same_new hp _ _ g1
    have c1' : (L2.upd H p (.lst [])) c = some (.lst (ms.map V.int)) := same_new hp _ _ c1
    generalize L2.upd H p (.lst []) = H2 at S2 k2 e1' g1' c1' ⊢
    cases ns with
    | nil =>
      refine iteF ?_
      refine ⟨_, rfl, sa, g, c, b, rfl, S2, fun H3 i S3 k3 i0 => ?_⟩
      obtain ⟨⟨r3, t3, e31, e32, e33, e34⟩, ⟨ns3, g31, g32⟩, ⟨ms3, c31, c32⟩, _, _, _⟩ := id S3
      refine ⟨_, rfl, sa, _, rfl, put_rest' i e31, rest _ ⟨⟨i, t3, upd_same, i0, e33, e34⟩, ⟨ns3, by rw [upd_ne (Ne.symm n1)]; exact g31, g32⟩, ⟨ms3, by rw [upd_ne (Ne.symm n2)]; exact c31, c32⟩, n1, n2, n3⟩ ((k2.trans k3).trans kp_sa)⟩
    | cons m ns =>
      refine ifT (by simp) ?_
      refine ⟨_, rfl, sa, _, rfl, get_great e1', .inl ⟨rfl, _, SqL.of g1'⟩, g, _, 0, 0, .int m, rfl, rfl, g1', by decide, by decide, ?_, rfl, ?_⟩
      · simp [seqIndex?]
      have e5 : (L2.upd H2 g (.lst (((m :: ns).map V.int).eraseIdx 0))) sa = some (.dK (stK g c r t)) := by rw [upd_ne n1]; exact e1'
      refine ⟨_, rfl, sa, _, rfl, put_rest' m e5, rest _ ⟨⟨m, t, upd_same, g2 m (by simp), e3, by omega⟩, ⟨ns, ?_, fun x hx => g2 x (List.mem_cons_of_mem _ hx)⟩, ⟨ms, ?_, c2⟩, n1, n2, n3⟩ ((k2.trans kp_g).trans kp_sa)⟩
      · rw [upd_ne (Ne.symm n1), upd_same] <;> rfl
      · rw [upd_ne (Ne.symm n2), upd_ne (Ne.symm n3)]; exact c1'
  · refine ifF (decide_eq_false fun q => hr0 (by injection q)) ?_
    exact rest H (S.weak (by omega)) (Kp.refl H)
theorem ok_pick (G : Gl8 mg) (F : FnP K "_law_pick" 36 f fd) (F1 : DefAt K mg "_law_mixed" 34 f1 fd1) (F2 : DefAt K mg "_law_draw" 35 f2 fd2) : FnOk P w K mg base CX0 3 f fd ["state", "some"] spPick := by
  have G2 : FnOk P w K mg base CX0 2 f2 fd2 ["state", "room"] spDraw := ok_draw G F2.fn F1
  have b2 : Binds K fd2 ["state", "room"] [] := F2.fn.bindsN fun _ _ _ _ _ _ us hl => match us, hl with | [_, _], _ => rfl
  refine F.ok scPick (fun vs H Q E h => ?_) (fun cdv A outer s H vs Q E hr h => ⟨_, pss_one (ps_ret (pe_ix ix_list (pv 1) (pe_call G2 hr rfl F2.g F2.fn.kp b2 .nil pass0 (pa_cons (pv 0) (pa_cons (pe_callB call_len_seq (by rfl) G.len PySem.boot_len (pa_cons (pv 1) pa_nil)) pa_nil))) (fun _ _ => rfl))), ?_⟩)
  · obtain ⟨_, _, _, _, _, _, rfl, _⟩ := h
    rfl
  obtain ⟨sa, g, c, b, l, xs, rfl, hl, n1, n2, ne, lx, S, hQ⟩ := h
  refine ⟨_, rfl, _, rfl, _, rfl, l, xs, rfl, .inl (SqL.of hl), sa, g, c, b, xs.length, rfl, ?_, ?_, S, fun H1 i S1 k1 i0 i1 => ?_⟩
  · have : xs.length ≠ 0 := fun z => ne (List.eq_nil_of_length_eq_zero z)
    omega
  · omega
  obtain ⟨j, rfl⟩ : ∃ j : Nat, i = (j : Int) := ⟨i.toNat, by omega⟩
  have hx : xs[j]? = some (xs[j]'(by omega)) := List.getElem?_eq_getElem _
  refine ⟨l, xs, _, _, rfl, rfl, SqL.of (k1 l _ n1 n2 hl), atI_nat hx, hQ H1 _ S1 k1 (List.mem_of_getElem? hx)⟩
end
end K88
namespace K88
open PySem PySem.Spec PyProof.Rows L2 Evl
theorem scBeg : FnScope ["script", "great", "cell"] ["script"] (defScope (top 33)) := ⟨rfl, rfl, rfl, by decide +kernel, rfl, by decide +kernel, by decide +kernel⟩
def spBeg (K : PySem.W.Frag) : Sp := fun vs H Q E => ∃ (a : Addr) (ns : List Int), vs = [.ref a] ∧ SqL K H a (ns.map V.int) ∧ ns.length ≤ 1000 ∧ ∀ H' sa g c, Same H H' → H sa = none → H g = none → StOk H' sa g c 1000000 → Q (.ref sa) H'
theorem scNest : FnScope ["many", "one", "lap"] ["many", "one"] (defScope (top 43)) := ⟨rfl, rfl, rfl, by decide +kernel, rfl, by decide +kernel, by decide +kernel⟩
def nest : Nat → PyData → PyData
  | 0, d => d
  | n + 1, d => .tuple [nest n d]
def spNest : Sp := fun vs H Q E => ∃ (n : Nat) (v : V) (d : PyData), vs = [.int n, v] ∧ n ≤ 1000 ∧ Dv H v d ∧ pl d = true ∧ ∀ H' u, Same H H' → Dv H' u (nest n d) → Q u H'
section
variable {P : Program} {w : World} {K : PySem.W.Frag} {mg : Str → Option Value} {base : Heap} {f f1 f2 : Addr} {fd fd1 fd2 : FuncData}
theorem ok_nest (G : Gl8 mg) (F : FnP K "_law_nested" 43 f fd) : FnOk P w K mg base CX0 1 f fd ["many", "one"] spNest := by
  refine F.ok scNest (fun vs H Q E h => ?_) (fun cdv A outer s H vs Q E hr h => ⟨_, PSs.nox (pss_cons (ps_for PassesOwn.never rfl (pi_range1 rfl G.range (pa_cons (pv 0) pa_nil)) (pg_name (i := 2) scNest.nd rfl (Or.inl rfl))
      (pss_one (ps_set (i := 1) scNest.nd rfl (Or.inl rfl) (pe_tup (pa_cons (pv 1) pa_nil)))))
    (pss_one (ps_ret (pv 1)))), ?_⟩)
  · obtain ⟨_, _, _, rfl, _⟩ := h
    rfl
  obtain ⟨n, v, d, rfl, hn, hv, hp, hQ⟩ := h
  have np : ∀ m, pl (nest m d) = true := fun m => by
    induction m with
    | zero => exact hp
    | succ m ih => show (pl (nest m d) && true) = true; rw [ih]; rfl
  refine ⟨_, rfl, n, rfl, by omega, by omega, ?_⟩
  rw [show ((n : Int)).toNat = n from Int.toNat_natCast n]
  refine for_range (lo := 0) (n := n) (fun i σ H' => ∃ u v2, σ = [some (.int n), some u, v2] ∧ Same H H' ∧ Dv H' u (nest i d)) ?_ ?_ ?_
  · exact ⟨v, none, rfl, Same.refl _, hv⟩
  · rintro i σ H' hi ⟨u, v2, rfl, s1, du⟩
    refine ⟨_, rfl, by show 1 ≤ sizeLine; decide, fun p hpn => ?_⟩
    have d1 := du.same (same_new (o := .tup [u]) hpn)
    refine ⟨.ref p, _, rfl, s1.trans (same_new hpn), .tup upd_same (DvL.one d1).1 (DvL.one d1).2⟩
  · rintro σ H' ⟨u, v2, rfl, s1, du⟩
    exact ⟨_, rfl, hQ H' u s1 du⟩
theorem ok_beg (G : Gl8 mg) (F : FnP K "_law_begun" 33 f fd) : FnOk P w K mg base CX0 1 f fd ["script"] (spBeg K) := by
  refine F.ok scBeg (fun vs H Q E h => ?_) (fun cdv A outer s H vs Q E hr h => ⟨_, PSs.nox (pss_cons (ps_setLc (i := 1) (own := [("cell", 2)]) (g := gName 2) rfl scBeg.nd rfl rfl (sw_true rfl rfl rfl (by decide +kernel)) (pi_list (pv 0)) (blkOk_by (N := ["script", "great", "cell"]) (sc := defScope (top 33)) (by decide +kernel)) (fun _ _ _ _ _ => pg_name (i := 2) scBeg.nd rfl (Or.inl rfl))
        (fun _ _ _ _ _ => pts_one (pt_cmpR op_ge (pe_callB call_abs rfl G.abs (by decide +kernel) (pa_cons (pv 2) pa_nil)) (pe_op op_pow pe_int pe_int) (nomark _)))
        (fun _ _ _ _ _ => pe_op op_sub (pe_callB call_abs rfl G.abs (by decide +kernel) (pa_cons (pv 2) pa_nil)) (pe_op op_pow pe_int pe_int)))
    (pss_one (ps_ret (pe_disp (pps_cons pe_str (pv 1) (pps_cons pe_str (pe_lc (own := [("cell", 2)]) (g := gName 2) rfl scBeg.nd (pi_list (pv 0)) (blkOk_by (N := ["script", "great", "cell"]) (sc := defScope (top 33)) (by decide +kernel)) (fun _ _ _ _ _ => pg_name (i := 2) scBeg.nd rfl (Or.inl rfl)) (fun _ _ _ _ _ => pts_nil)
        (fun _ _ _ _ _ => pe_callB call_abs rfl G.abs (by decide +kernel) (pa_cons (pv 2) pa_nil))) (pps_cons pe_str pe_int (pps_cons pe_str pe_int pps_nil)))) (by rfl) (by rfl) (fun z => by cases z) (by decide))))), ?_⟩)
  · obtain ⟨_, _, rfl, _⟩ := h
    rfl
  obtain ⟨a, ns, rfl, ha, hn, hQ⟩ := h
  refine ⟨_, rfl, a, rfl, ⟨_, ha⟩, fun D hD => ?_⟩
  refine lc_list (K := K) (a := a) (xs := ns.map V.int) (fun i H' => ∃ acc : List Int, H' = L2.upd H D (.lst (acc.map V.int)) ∧ (∀ n ∈ acc, 0 ≤ n) ∧ acc.length ≤ i) ?_ ?_ ?_ ?_
  · exact ⟨[], rfl, by simp, Nat.le_refl _⟩
  · rintro i H' _ ⟨acc, rfl, _⟩
    exact (same_new hD).seq ha
  · rintro i x H' hx ⟨acc, rfl, a0, al⟩
    obtain ⟨m, rfl⟩ : ∃ m : Int, x = .int m := by
      rw [List.getElem?_map] at hx
      cases e : ns[i]? with
      | none => rw [e] at hx; cases hx
      | some z => rw [e] at hx; exact ⟨z, (Option.some.inj hx).symm⟩
    have li : i < 1000 := by
      have := (List.getElem?_eq_some_iff.mp hx).1
      rw [List.length_map] at this
      omega
    refine ⟨rfl, ?_⟩
    refine ⟨_, rfl, m, rfl, 10, 18, rfl, rfl, ⟨by decide, by decide, by decide⟩, _, _, rfl, rfl, _, rfl, ?_⟩
    by_cases hge : (10 : Int) ^ (18 : Int).toNat ≤ (if m < 0 then -m else m)
    · refine ifT (decide_eq_true hge) ?_
      refine ⟨_, rfl, m, rfl, 10, 18, rfl, rfl, ⟨by decide, by decide, by decide⟩, _, _, rfl, rfl, acc.map V.int, upd_same, by rw [List.length_map]; exact most_line8 (by omega), ?_⟩
      refine ⟨acc ++ [_], by rw [upd_upd, List.map_append] <;> rfl, fun n hn => ?_, by simp; omega⟩
      rcases List.mem_append.mp hn with h | h
      · exact a0 n h
      · rw [List.mem_singleton.mp h]
        omega
    · refine ifF (decide_eq_false hge) ?_
      exact ⟨acc, rfl, a0, by omega⟩
  · rintro H' ⟨gs, rfl, g0, gl⟩
    refine fun p hp => ?_
    have s1 : Same H (L2.upd H D (.lst (gs.map V.int))) := same_new hD
    have hD1 : (L2.upd H D (.lst (gs.map V.int))) D = some (.lst (gs.map V.int)) := upd_same
    generalize L2.upd H D (.lst (gs.map V.int)) = H1 at hp s1 hD1 ⊢
    have nDp := ne_of_none hD1 hp
    have s2 : Same H (L2.upd H1 p (.dK [])) := s1.trans (same_new hp)
    have hp2 : (L2.upd H1 p (.dK [])) p = some (.dK []) := upd_same
    have hD2 : (L2.upd H1 p (.dK [])) D = some (.lst (gs.map V.int)) := by rw [upd_ne nDp]; exact hD1
    have hp0 : H p = none := by
      cases q : H p with
      | none => rfl
      | some u => rw [s1 _ _ q] at hp; cases hp
    generalize L2.upd H1 p (.dK []) = H2 at s2 hp2 hD2 ⊢
    refine ⟨_, rfl, _, rfl, a, rfl, ⟨_, s2.seq ha⟩, fun c hc => ?_⟩
    refine lc_list (K := K) (a := a) (xs := ns.map V.int) (fun i H' => ∃ acc : List Int, H' = L2.upd H2 c (.lst (acc.map V.int)) ∧ (∀ n ∈ acc, 0 ≤ n) ∧ acc.length ≤ i) ?_ ?_ ?_ ?_
    · exact ⟨[], rfl, by simp, Nat.le_refl _⟩
    · rintro i H' _ ⟨acc, rfl, _⟩
      exact (s2.trans (same_new hc)).seq ha
    · rintro i x H' hx ⟨acc, rfl, a0, al⟩
      obtain ⟨m, rfl⟩ : ∃ m : Int, x = .int m := by
        rw [List.getElem?_map] at hx
        cases e : ns[i]? with
        | none => rw [e] at hx; cases hx
        | some z => rw [e] at hx; exact ⟨z, (Option.some.inj hx).symm⟩
      have li : i < 1000 := by
        have := (List.getElem?_eq_some_iff.mp hx).1
        rw [List.length_map] at this
        omega
      refine ⟨rfl, _, rfl, m, rfl, acc.map V.int, upd_same, by rw [List.length_map]; exact most_line8 (by omega), ?_⟩
      refine ⟨acc ++ [_], by rw [upd_upd, List.map_append] <;> rfl, fun n hn => ?_, by simp; omega⟩
      rcases List.mem_append.mp hn with h | h
      · exact a0 n h
      · rw [List.mem_singleton.mp h]
        split <;> omega
    · rintro H' ⟨cs, rfl, c0, cl⟩
      have npc := ne_of_none hp2 hc
      have nDc := ne_of_none hD2 hc
      have hg0 : H D = none := hD
      refine ⟨by rw [upd_ne npc]; exact hp2, [(Sum.inr "great", .ref D), (Sum.inr "cells", .ref c), (Sum.inr "rest", .int 0), (Sum.inr "turn", .int 0)], rfl, by simp, ?_⟩
      have em : mergeK [] [((Sum.inr "great" : Key), V.ref D), (Sum.inr "cells", .ref c), (Sum.inr "rest", .int 0), (Sum.inr "turn", .int 0)] = stK D c 0 0 := by kernel_rfl
      rw [em]
      refine hQ _ p D c ?_ hp0 hD ⟨⟨0, 0, upd_same, Int.le_refl _, Int.le_refl _, by decide⟩, ⟨gs, ?_, g0⟩, ⟨cs, ?_, c0⟩, Ne.symm nDp, npc, nDc⟩
      · exact same_upd (s2.trans (same_new hc)) hp0
      · rw [upd_ne nDp, upd_ne nDc]; exact hD2
      · rw [upd_ne (Ne.symm npc)]; exact upd_same
end
end K88
namespace K88
open PySem PySem.Spec PyProof.Rows L2 Evl
/-- plain data of less than n levels -/
def vq : PyData → Nat → Bool
  | .tuple ds, n => (match n with
    | 0 => false
    | m + 1 => vqs ds m)
  | .none, n => decide (0 < n)
  | .str _, n => decide (0 < n)
  | .int _, n => decide (0 < n)
  | .bool _, n => decide (0 < n)
  | .list _, _ => false
  | .dict _, _ => false
where vqs : List PyData → Nat → Bool
  | [], _ => true
  | d :: ds, n => vq d n && vqs ds n
theorem vqs_get : ∀ {ds : List PyData} {i n : Nat} {d : PyData}, vq.vqs ds n = true → ds[i]? = some d → vq d n = true
  | [], i, _, d, _, h => by simp at h
  | c :: cs, i, n, d, h, e => by
    obtain ⟨h1, h2⟩ := Bool.and_eq_true_iff.mp (show (vq c n && vq.vqs cs n) = true from h)
    cases i with
    | zero => simp at e; rw [← e]; exact h1
    | succ i => exact vqs_get h2 (by simpa using e)
mutual
theorem val_vq : ∀ (d : PyData) (n : Nat), val d n = true → vq d (n + 1) = true
  | .tuple ds, 0, h => by cases h
  | .tuple ds, n + 1, h => vals_vqs ds n h
  | .none, _, _ => by simp [vq]
  | .int _, _, _ => by simp [vq]
  | .str _, _, _ => by simp [vq]
  | .bool _, _, h => by simp [vq]
  | .list _, _, h => by cases h
  | .dict _, _, h => by cases h
theorem vals_vqs : ∀ (ds : List PyData) (n : Nat), val.vals ds n = true → vq.vqs ds (n + 1) = true
  | [], _, _ => rfl
  | d :: ds, n, h => by
    obtain ⟨h1, h2⟩ := Bool.and_eq_true_iff.mp (show (val d n && val.vals ds n) = true from h)
    show (vq d (n + 1) && vq.vqs ds (n + 1)) = true
    rw [val_vq d n h1, vals_vqs ds n h2]; rfl
end
theorem vq_zero (d : PyData) : vq d 0 = false := by cases d <;> simp [vq]
theorem scPla : FnScope ["value", "one"] ["value"] (defScope (top 37)) := ⟨rfl, rfl, rfl, by decide +kernel, rfl, by decide +kernel, by decide +kernel⟩
def spPla (n : Nat) : Sp := fun vs H Q E => ∃ v d, vs = [v] ∧ Dv H v d ∧ vq d n = true ∧ wt d ≤ most ∧ ∀ H', Same H H' → Q (.bl true) H'
section
variable {P : Program} {w : World} {K : PySem.W.Frag} {mg : Str → Option Value} {base : Heap} {f f1 f2 : Addr} {fd fd1 fd2 : FuncData}
theorem kit2 : ∀ t ∈ tyNames, PySem.W.kitAny K (.type t) [.type "list", .type "tuple"] = some (decide (t = "list" ∨ t = "tuple")) := by
  intro t ht
  simp only [tyNames, List.mem_cons, List.not_mem_nil, or_false] at ht
  rcases ht with rfl | rfl | rfl | rfl | rfl | rfl | rfl <;> kernel_rfl
theorem kit3 : ∀ t ∈ tyNames, PySem.W.kitAny K (.type t) [.type "int", .type "str"] = some (decide (t = "int" ∨ t = "str" ∨ t = "bool")) := by
  intro t ht
  simp only [tyNames, List.mem_cons, List.not_mem_nil, or_false] at ht
  rcases ht with rfl | rfl | rfl | rfl | rfl | rfl | rfl <;> kernel_rfl
theorem ok_plain (G : Gl8 mg) (F : DefAt K mg "_law_plain" 37 f fd) : ∀ n : Nat, FnOk P w K mg base CX0 n f fd ["value"] (spPla n)
  | 0 => ⟨fun vs H Q E h => by
      obtain ⟨v, d, rfl, _⟩ := h
      rfl, fun A outer s H args us vs Q E _ _ _ _ h => by
      obtain ⟨v, d, _, _, hq, _⟩ := h
      rw [vq_zero] at hq
      cases hq⟩
  | n + 1 => by
    have G1 := ok_plain G F n
    have b1 : Binds K fd ["value"] [] := bind1 F.fn fun _ _ _ _ _ _ _ => rfl
    refine F.fn.ok scPla (fun vs H Q E h => ?_) (fun cdv A outer s H vs Q E hr h => ⟨_, PSs.nox (pss_cons (ps_if (pt_val (pe_callB call_isiT rfl G.isi (by decide +kernel) (pa_cons (pv 0) (pa_cons (pe_tup (pa_cons (pe_bltn (v := .ty "list") (u := .type "list") rfl G.list (by decide +kernel) rfl) (pa_cons (pe_bltn (v := .ty "tuple") (u := .type "tuple") rfl G.tuple (by decide +kernel) rfl) pa_nil))) pa_nil))))
        (pss_one (ps_ret (pe_cmpR (op_ee hr.units0) (pe_lc (own := [("one", 1)]) (g := gName 1) rfl scPla.nd (pi_tup (pv 0)) (blkOk_by (N := ["value", "one"]) (sc := defScope (top 37)) (by decide +kernel)) (fun _ _ _ _ _ => pg_name (i := 1) scPla.nd rfl (Or.inl rfl))
          (fun _ _ _ _ _ => pts_one (pt_not (pt_val (pe_call G1 hr rfl F.g F.fn.kp b1 .nil pass0 (pa_cons (pv 1) pa_nil))))) (fun _ _ _ _ _ => pe_int)) (pe_lst pa_nil) (nomark _)))) pss_nil)
      (pss_cons (ps_if (pt_val (pe_callB call_isi rfl G.isi (by decide +kernel) (pa_cons (pv 0) (pa_cons (pe_bltn (v := .ty "dict") (u := .type "dict") rfl G.dict (by decide +kernel) rfl) pa_nil)))) (pss_one ps_never) pss_nil)
      (pss_one (ps_ret (pe_or (pe_cmp (pc_isN (pv 0)) rfl) (pe_one (pe_callB call_isiT rfl G.isi (by decide +kernel) (pa_cons (pv 0) (pa_cons (pe_tup (pa_cons (pe_bltn (v := .ty "int") (u := .type "int") rfl G.int (by decide +kernel) rfl) (pa_cons (pe_bltn (v := .ty "str") (u := .type "str") rfl G.str (by decide +kernel) rfl) pa_nil))) pa_nil))))))))), ?_⟩)
    · obtain ⟨v, d, rfl, _⟩ := h
      rfl
    obtain ⟨v, d, rfl, hv, hq, hw, hQ⟩ := h
    refine ⟨v, rfl, by show 2 ≤ sizeLine; decide, fun tp htp => ?_⟩
    have s1 : Same H (L2.upd H tp (.tup [.ty "list", .ty "tuple"])) := same_new htp
    have ht1 : (L2.upd H tp (.tup [.ty "list", .ty "tuple"])) tp = some (.tup [.ty "list", .ty "tuple"]) := upd_same
    generalize L2.upd H tp (.tup [.ty "list", .ty "tuple"]) = H1 at s1 ht1 ⊢
    refine ⟨v, tp, _, _, _, _, rfl, ht1, .cons (.ty _) (.cons (.ty _) .nil), dv_ty (hv.same s1), kit2 _ (tyD_mem d), _, rfl, ?_⟩
    by_cases ht : tyD d = "tuple"
    · refine ifT (decide_eq_true (.inr ht)) ?_
      obtain ⟨a, xs, ds, rfl, rfl, ha, dx⟩ := dv_tup hv ht
      have hqs : vq.vqs ds n = true := hq
      refine ⟨_, rfl, a, rfl, ⟨_, .inl (.inl (s1 _ _ ha))⟩, fun D hD => ?_⟩
      refine lc_tup (K := K) (a := a) (xs := xs) (fun i H' => Same H1 H' ∧ H' D = some (.lst [])) ?_ ?_ ?_ ?_
      · exact ⟨same_new hD, upd_same⟩
      · rintro i H' _ ⟨s2, _⟩
        exact .inl (.inl (s2 _ _ (s1 _ _ ha)))
      · rintro i x H' hx ⟨s2, hD2⟩
        obtain ⟨e, he, de⟩ := dx.get hx
        refine ⟨rfl, _, rfl, x, e, rfl, (de.same s1).same s2, vqs_get hqs he, ?_, fun H3 s3 => ⟨_, rfl, iteF ⟨s2.trans s3, s3 _ _ hD2⟩⟩⟩
        have := wts_get he
        have e2 : wt (.tuple ds) = 3 + wt.wts ds := rfl
        omega
      · rintro H' ⟨s2, hD2⟩
        refine ⟨by show 0 ≤ sizeLine; decide, fun p hp => ?_⟩
        have np := ne_of_none hD2 hp
        exact ⟨D, p, [], rfl, rfl, np, SqL.of (by rw [upd_ne np]; exact hD2), SqL.of upd_same, hQ _ ((s1.trans s2).trans (same_new hp))⟩
    · have nl : tyD d ≠ "list" := by
        intro z
        cases d <;> simp [tyD, vq] at z hq
      have nd : tyD d ≠ "dict" := by
        intro z
        cases d <;> simp [tyD, vq] at z hq
      refine ifF (decide_eq_false fun z => z.elim nl ht) ?_
      refine ⟨v, rfl, _, _, _, _, false, rfl, .ty _, dv_ty (hv.same s1), kit_ty (kit_no (by simp) nd), false, rfl, iteF ?_⟩
      refine ⟨v, rfl, _, rfl, ?_⟩
      by_cases hn : v = V.non
      · refine ifT (decide_eq_true hn) (hQ _ s1)
      · refine ifF (decide_eq_false hn) ?_
        refine ⟨v, rfl, by show 2 ≤ sizeLine; decide, fun tp2 htp2 => ?_⟩
        refine ⟨v, tp2, _, _, _, _, rfl, upd_same, .cons (.ty _) (.cons (.ty _) .nil), dv_ty (hv.same (s1.trans (same_new htp2))), kit3 _ (tyD_mem d), ?_⟩
        have : decide (tyD d = "int" ∨ tyD d = "str" ∨ tyD d = "bool") = true := by
          cases hv with
          | non => exact absurd rfl hn
          | lst => exact absurd rfl nl
          | tup => exact absurd rfl ht
          | _ => simp [tyD]
        rw [this]
        exact hQ _ (s1.trans (same_new htp2))
end
end K88
/-! A value's text by its parts' texts. -/
namespace K88
open PySem PySem.Spec PyProof.Rows L2 Evl
def tls (l : List Str) : List Nat := l.flatMap fun s => s.cps.toList
theorem tls_app (a b : List Str) : tls (a ++ b) = tls a ++ tls b := by simp [tls]
theorem tls_cons (a : Str) (b : List Str) : tls (a :: b) = a.cps.toList ++ tls b := by simp [tls]
theorem joinL_nil : ∀ (l : List (List Nat)), TL.joinL [] l = l.flatten
  | [] => rfl
  | [p] => by simp [TL.joinL]
  | p :: q :: r => by
    show p ++ ([] ++ TL.joinL [] (q :: r)) = _
    rw [joinL_nil (q :: r)]
    simp
theorem map_S (l : List Str) : l = (l.map fun s => s.cps.toList).map SX := by
  rw [List.map_map]
  conv => lhs; rw [← List.map_id l]
  rfl
theorem textD_eq (d : PyData) : textD d = SX (tls (pcs d)) := by
  unfold textD
  conv => lhs; rw [map_S (pcs d)]
  have := SX.join_S [] ((pcs d).map fun s => s.cps.toList)
  refine this.trans ?_
  rw [joinL_nil]
  simp [tls, List.flatMap]
theorem joinL_pcs : ∀ (ds : List PyData), TL.joinL [32] (ds.map fun d => tls (pcs d)) = tls (pcs.pcsL ds)
  | [] => rfl
  | [d] => by
    show tls (pcs d) = tls (pcs d ++ [])
    rw [List.append_nil]
  | d :: e :: r => by
    show tls (pcs d) ++ ([32] ++ TL.joinL [32] ((e :: r).map fun d => tls (pcs d))) = tls (pcs d ++ ((" " : Str) :: pcs.pcsL (e :: r)))
    rw [joinL_pcs (e :: r), tls_app, tls_cons] <;> rfl
theorem join_text (ds : List PyData) : Txt.join (" " : Str) (ds.map textD) = SX (tls (pcs.pcsL ds)) := by
  have e : ds.map textD = (ds.map fun d => tls (pcs d)).map SX := by
    rw [List.map_map]
    exact List.map_congr_left fun d _ => textD_eq d
  rw [e]
  have := SX.join_S [32] (ds.map fun d => tls (pcs d))
  refine Eq.trans ?_ (this.trans (by rw [joinL_pcs]))
  rfl
theorem text_tuple (ds : List PyData) : (("(" : Str) ++ Txt.join (" " : Str) (ds.map textD)) ++ (")" : Str) = textD (.tuple ds) := by
  rw [join_text, textD_eq]
  have h1 : ("(" : Str) = SX [40] := by decide
  have h2 : (")" : Str) = SX [41] := by decide
  rw [h1, h2]
  refine (congrArg (· ++ SX [41]) (SX.S_cat [40] _)).trans ((SX.S_cat _ [41]).trans ?_)
  show SX _ = SX (tls ("(" :: (pcs.pcsL ds ++ [(")" : Str)])))
  rw [tls_cons, tls_app, tls_cons]
  have h3 : ("(" : Str).cps.toList = [40] := by decide
  have h4 : (")" : Str).cps.toList = [41] := by decide
  rw [h3, h4]
  simp [tls]
theorem len_tls (l : List Str) : (tls l).length = lens l := by
  induction l with
  | nil => rfl
  | cons a l ih =>
    rw [tls_cons, List.length_append, ih, lens_cons]
    simp [Str.length]
theorem len_text {d : PyData} {n : Nat} (h : val d n = true) : (textD d).length + 1 ≤ wt d := by
  have := lens_pcs d n h
  rw [textD_eq]
  have e : (SX (tls (pcs d))).length = (tls (pcs d)).length := by simp [Str.length]
  rw [e, len_tls]
  exact this
theorem text_leaf {d : PyData} (h : tyD d ≠ "tuple") : pcs d = [leafT d] → textD d = leafT d := fun e => by
  rw [textD_eq, e]
  show SX ((leafT d).cps.toList ++ []) = _
  rw [List.append_nil]
theorem sum_text : ∀ (ds : List PyData) (n : Nat), val.vals ds n = true → ((ds.map textD).map (·.length)).sum + ds.length ≤ wt.wts ds
  | [], _, _ => by decide
  | d :: ds, n, h => by
    obtain ⟨h1, h2⟩ := Bool.and_eq_true_iff.mp (show (val d n && val.vals ds n) = true from h)
    have := sum_text ds n h2
    have := len_text h1
    simp only [List.map_cons, List.sum_cons, List.length_cons]
    show _ ≤ wt d + wt.wts ds
    omega
end K88
namespace K88
open PySem PySem.Spec PyProof.Rows L2 Evl
theorem scLtx : FnScope ["value", "one"] ["value"] (defScope (top 39)) := ⟨rfl, rfl, rfl, by decide +kernel, rfl, by decide +kernel, by decide +kernel⟩
def spLtx (n : Nat) : Sp := fun vs H Q E => ∃ v d m, vs = [v] ∧ Dv H v d ∧ val d m = true ∧ m < n ∧ wt d ≤ most ∧ ∀ H', Same H H' → Q (.str (textD d)) H'
section
variable {P : Program} {w : World} {K : PySem.W.Frag} {mg : Str → Option Value} {base : Heap} {f f1 f2 : Addr} {fd fd1 fd2 : FuncData}
theorem ok_ltx (G : Gl8 mg) (F : DefAt K mg "_law_value_text" 39 f fd) : ∀ n : Nat, FnOk P w K mg base CX0 n f fd ["value"] (spLtx n)
  | 0 => ⟨fun vs H Q E h => by
      obtain ⟨v, d, m, rfl, _⟩ := h
      rfl, fun A outer s H args us vs Q E _ _ _ _ h => by
      obtain ⟨v, d, m, _, _, _, hq, _⟩ := h
      exact absurd hq (Nat.not_lt_zero _)⟩
  | n + 1 => by
    have G1 := ok_ltx G F n
    have b1 : Binds K fd ["value"] [] := bind1 F.fn fun _ _ _ _ _ _ _ => rfl
    refine F.fn.ok scLtx (fun vs H Q E h => ?_) (fun cdv A outer s H vs Q E hr h => ⟨_, PSs.nox (pss_cons (ps_if (pt_val (pe_callB call_isi rfl G.isi (by decide +kernel) (pa_cons (pv 0) (pa_cons (pe_bltn (v := .ty "tuple") (u := .type "tuple") rfl G.tuple (by decide +kernel) rfl) pa_nil))))
        (pss_one (ps_ret (pe_op op_add_str (pe_op op_add_str pe_str (pe_join pe_str (pe_lc (own := [("one", 1)]) (g := gName 1) rfl scLtx.nd (pi_tup (pv 0)) (blkOk_by (N := ["value", "one"]) (sc := defScope (top 39)) (by decide +kernel)) (fun _ _ _ _ _ => pg_name (i := 1) scLtx.nd rfl (Or.inl rfl))
          (fun _ _ _ _ _ => pts_nil) (fun _ _ _ _ _ => pe_call G1 hr rfl F.g F.fn.kp b1 .nil pass0 (pa_cons (pv 1) pa_nil))))) pe_str))) pss_nil)
      (pss_one (ps_ret (pe_ifExp (pt_cmpR op_isN (pv 0) pe_non (nomark _)) pe_str (pe_callTy call_str2 (by rfl) G.str (by decide +kernel) (pa_cons (pv 0) pa_nil)))))), ?_⟩)
    · obtain ⟨v, d, m, rfl, _⟩ := h
      rfl
    obtain ⟨v, d, m, rfl, hv, hval, hm, hw, hQ⟩ := h
    by_cases ht : tyD d = "tuple"
    · refine ⟨v, rfl, _, _, _, _, true, rfl, .ty _, dv_ty hv, kit_ty (kit_yes (by simp) ht), true, rfl, iteT ?_⟩
      obtain ⟨a, xs, ds, rfl, rfl, ha, dx⟩ := dv_tup hv ht
      obtain ⟨k, rfl⟩ : ∃ k, m = k + 1 := by
        cases m with
        | zero => cases hval
        | succ k => exact ⟨k, rfl⟩
      have hvs : val.vals ds k = true := hval
      have wd : wt (.tuple ds) = 3 + wt.wts ds := rfl
      have ls := sum_text ds k hvs
      refine ⟨⟨_, rfl⟩, _, rfl, a, rfl, ⟨_, .inl (.inl ha)⟩, fun D hD => ?_⟩
      refine lc_tup (K := K) (a := a) (xs := xs) (fun i H' => Same H H' ∧ H' D = some (.lst (((ds.take i).map textD).map V.str))) ?_ ?_ ?_ ?_
      · exact ⟨same_new hD, upd_same⟩
      · rintro i H' _ ⟨s2, _⟩
        exact .inl (.inl (s2 _ _ ha))
      · rintro i x H' hx ⟨s2, hD2⟩
        obtain ⟨e, he, de⟩ := dx.get hx
        have we := wts_get he
        have li : i < ds.length := (List.getElem?_eq_some_iff.mp he).1
        have lw := len_wts ds
        refine ⟨rfl, x, rfl, x, e, k, rfl, de.same s2, vals_get hvs he, by omega, by omega, fun H3 s3 => ⟨_, s3 _ _ hD2, most_line8 ?_, same_upd (s2.trans s3) hD, ?_⟩⟩
        · simp
          unfold most at hw
          omega
        · rw [upd_same, take_snoc he]
          simp
      · rintro H' ⟨s2, hD2⟩
        rw [dx.1, List.take_length] at hD2
        have lt := len_text (d := .tuple ds) (n := k + 1) hval
        have tt := text_tuple ds
        have l1 : ("(" : Str).length = 1 := by decide
        have l2 : (")" : Str).length = 1 := by decide
        have l3 : (" " : Str).length = 1 := by decide
        have la : ∀ a b : Str, (a ++ b).length = a.length + b.length := fun a b => by
          have := congrArg List.length (TL.tl_append a b)
          simpa [TL.tl, Str.length] using this
        have lj : (Txt.join (" " : Str) (ds.map textD)).length ≤ 4000000 := by
          have := congrArg Str.length tt
          rw [la, la] at this
          unfold most at hw
          omega
        refine ⟨" ", D, ds.map textD, rfl, rfl, .inl (SqL.of hD2), ?_, _, _, rfl, rfl, ?_, _, _, rfl, rfl, ?_, ?_⟩
        · rw [l3, List.length_map, Nat.mul_one]
          unfold most at hw
          omega
        · rw [l1]
          exact most_line9 (by omega)
        · rw [la, l1, l2]
          exact most_line9 (by omega)
        · have := hQ H' s2
          rw [← tt] at this
          exact this
    · refine ⟨v, rfl, _, _, _, _, false, rfl, .ty _, dv_ty hv, kit_ty (kit_no (by simp) ht), false, rfl, iteF ?_⟩
      refine ⟨v, rfl, rfl, _, rfl, ?_⟩
      cases d with
      | none =>
        cases hv
        refine iteT ?_
        have := hQ H (Same.refl _)
        exact this
      | int i =>
        cases hv
        refine iteF ⟨_, rfl, .inl ⟨i, rfl, ?_, ?_⟩⟩
        · have h1 := of_decide_eq_true (show figI i = true from hval)
          exact log_small (by split at h1 <;> omega)
        · have := hQ H (Same.refl _)
          rw [text_leaf (d := .int i) (by simp [tyD]) rfl] at this
          exact this
      | str z =>
        cases hv
        refine iteF ⟨_, rfl, .inr ⟨z, rfl, ?_⟩⟩
        have := hQ H (Same.refl _)
        rw [text_leaf (d := .str z) (by simp [tyD]) rfl] at this
        exact this
      | tuple ds => exact absurd rfl ht
      | bool b => cases hval
      | list ds => cases hval
      | dict ds => cases hval
end
end K88
namespace K88
open PySem PySem.Spec PyProof.Rows L2 Evl
def cst : Nat → Nat
  | 0 => 2
  | n + 1 => 2 + 3 * cst n
def wtb : Nat → Nat
  | 0 => 16
  | n + 1 => 3 + 3 * wtb n
theorem scSom : FnScope ["state", "deep", "way", "lap"] ["state", "deep"] (defScope (top 42)) := ⟨rfl, rfl, rfl, by decide +kernel, rfl, by decide +kernel, by decide +kernel⟩
/-- a drawn value -/
def Drawn (m : Nat) (d : PyData) : Prop := val d m = true ∧ wt d ≤ wtb m
def spSom (n : Nat) : Sp := fun vs H Q E => ∃ sa g c b, ∃ m : Nat, vs = [.ref sa, .int m] ∧ m < n ∧ StOk H sa g c (b + cst m) ∧ ∀ H' v d, StOk H' sa g c b → Kp sa g H H' → Dv H' v d → Drawn m d → Q v H'
section
variable {P : Program} {w : World} {K : PySem.W.Frag} {mg : Str → Option Value} {base : Heap} {f f1 f2 f3 : Addr} {fd fd1 fd2 fd3 : FuncData}
def wordsL : List Str := ["a", "on", "zz", "entry", "abcdefghijklm"]
def figsL : List Int := [0, 1, 0 - 1, 7, 0 - 42, 999999999999, 0 - 999999999999]
theorem words_ok : ∀ s ∈ wordsL, wordS s = true ∧ s.cps.size ≤ 13 := by decide +kernel
theorem figs_ok : ∀ i ∈ figsL, figI i = true := by decide +kernel
theorem wtb_pos : ∀ n, 16 ≤ wtb n
  | 0 => Nat.le_refl _
  | n + 1 => by
    have := wtb_pos n
    show 16 ≤ 3 + 3 * wtb n
    omega
theorem cst_pos (n : Nat) : 2 ≤ cst n := by cases n <;> simp [cst]
theorem ok_some (G : Gl8 mg) (F : DefAt K mg "_law_some_value" 42 f fd) (F1 : DefAt K mg "_law_mixed" 34 f1 fd1) (F2 : DefAt K mg "_law_draw" 35 f2 fd2) (F3 : DefAt K mg "_law_pick" 36 f3 fd3) : ∀ n : Nat, FnOk P w K mg base CX0 (n + 3) f fd ["state", "deep"] (spSom n)
  | 0 => ⟨fun vs H Q E h => by
      obtain ⟨_, _, _, _, _, rfl, _⟩ := h
      rfl, fun A outer s H args us vs Q E _ _ _ _ h => by
      obtain ⟨_, _, _, _, _, _, hq, _⟩ := h
      exact absurd hq (Nat.not_lt_zero _)⟩
  | n + 1 => by
    have G0 := ok_some G F F1 F2 F3 n
    have G2 : FnOk P w K mg base CX0 2 f2 fd2 ["state", "room"] spDraw := ok_draw G F2.fn F1
    have G3 : FnOk P w K mg base CX0 3 f3 fd3 ["state", "some"] spPick := ok_pick G F3.fn F1 F2
    have b0 : Binds K fd ["state", "deep"] [] := F.fn.bindsN fun _ _ _ _ _ _ us hl => match us, hl with | [_, _], _ => rfl
    have b2 : Binds K fd2 ["state", "room"] [] := F2.fn.bindsN fun _ _ _ _ _ _ us hl => match us, hl with | [_, _], _ => rfl
    have b3 : Binds K fd3 ["state", "some"] [] := F3.fn.bindsN fun _ _ _ _ _ _ us hl => match us, hl with | [_, _], _ => rfl
    refine F.fn.ok scSom (fun vs H Q E h => ?_) (fun cdv A outer s H vs Q E hr h => ⟨_, PSs.nox (pss_cons (ps_set (i := 2) scSom.nd rfl (Or.inl rfl) (pe_ifExp (pt_cmpR op_gt (pv 1) pe_int (nomark _)) (pe_call G2 (hr.mono (by omega)) rfl F2.g F2.fn.kp b2 .nil pass0 (pa_cons (pv 0) (pa_cons pe_int pa_nil))) (pe_call G2 (hr.mono (by omega)) rfl F2.g F2.fn.kp b2 .nil pass0 (pa_cons (pv 0) (pa_cons pe_int pa_nil)))))
      (pss_cons (ps_if (pt_cmpR op_eq (pv 2) pe_int (nomark _)) (pss_one (ps_ret (pe_call G3 (hr.mono (by omega)) rfl F3.g F3.fn.kp b3 .nil pass0 (pa_cons (pv 0) (pa_cons (pe_lst (pa_cons pe_str (pa_cons pe_str (pa_cons pe_str (pa_cons pe_str (pa_cons pe_str pa_nil)))))) pa_nil))))) pss_nil)
      (pss_cons (ps_if (pt_cmpR op_eq (pv 2) pe_int (nomark _)) (pss_one (ps_ret (pe_call G3 (hr.mono (by omega)) rfl F3.g F3.fn.kp b3 .nil pass0 (pa_cons (pv 0) (pa_cons (pe_lst (pa_cons pe_int (pa_cons pe_int (pa_cons (pe_op op_sub pe_int pe_int) (pa_cons pe_int (pa_cons (pe_op op_sub pe_int pe_int) (pa_cons pe_int (pa_cons (pe_op op_sub pe_int pe_int) pa_nil)))))))) pa_nil))))) pss_nil)
      (pss_cons (ps_if (pt_cmpR op_eq (pv 2) pe_int (nomark _)) (pss_one (ps_ret pe_non)) pss_nil)
      (pss_one (ps_ret (pe_callTy call_tuple_of (by rfl) G.tuple (by decide +kernel) (pa_cons (pe_lc (own := [("lap", 3)]) (g := gName 3) rfl scSom.nd (pi_range1 rfl G.range (pa_cons (pe_call G2 (hr.mono (by omega)) rfl F2.g F2.fn.kp b2 .nil pass0 (pa_cons (pv 0) (pa_cons pe_int pa_nil))) pa_nil)) (blkOk_by (N := ["state", "deep", "way", "lap"]) (sc := defScope (top 42)) (by decide +kernel)) (fun _ _ _ _ _ => pg_name (i := 3) scSom.nd rfl (Or.inl rfl))
        (fun _ _ _ _ _ => pts_nil) (fun _ _ _ _ _ => pe_call G0 hr rfl F.g F.fn.kp b0 .nil pass0 (pa_cons (pv 0) (pa_cons (pe_op op_sub (pv 1) pe_int) pa_nil)))) pa_nil)))))))), ?_⟩)
    · obtain ⟨_, _, _, _, _, rfl, _⟩ := h
      rfl
    obtain ⟨sa, g, c, b, m, rfl, hm, S, hQ⟩ := h
    have cp := cst_pos m
    have way : ∀ Q' : VK, (∀ H1 (i : Int), StOk H1 sa g c (b + cst m - 1) → Kp sa g H H1 → 0 ≤ i → i < 6 → (m = 0 → i < 3) → Q' (.int i) H1) → tIf (tTest (tOp (rI0 fun i j => .bl (decide (j < i))) (tVar 1) (tC (.int 0)))) (tCall spDraw [] E0 (tCons (tVar 0) (tCons (tC (.int 6)) tNil))) (tCall spDraw [] E0 (tCons (tVar 0) (tCons (tC (.int 3)) tNil))) [some (.ref sa), some (.int m), none, none] H Q' := fun Q' k => by
      have S' : StOk H sa g c ((b + cst m - 1) + 1) := S.weak (by omega)
      refine ⟨_, rfl, _, _, rfl, rfl, _, rfl, ?_⟩
      by_cases hm0 : m = 0
      · refine ifF (decide_eq_false (by omega)) ?_
        exact ⟨_, rfl, sa, g, c, _, 3, rfl, by decide, by decide, S', fun H1 i S1 k1 i0 i1 => k H1 i S1 k1 i0 (by omega) (fun _ => i1)⟩
      · refine ifT (decide_eq_true (by omega)) ?_
        exact ⟨_, rfl, sa, g, c, _, 6, rfl, by decide, by decide, S', fun H1 i S1 k1 i0 i1 => k H1 i S1 k1 i0 i1 (fun z => absurd z hm0)⟩
    refine way _ fun H1 i S1 k1 i0 i6 i3 => ?_
    have t1 : TExt H H1 := Kp.text S k1
    have S1' : StOk H1 sa g c (b + 1) := S1.weak (by omega)
    -- a pick of leaves
    have pick : ∀ (xs : List V), xs ≠ [] → xs.length ≤ 1000 → (∀ x ∈ xs, ∃ d, Drawn m d ∧ ∀ H2, Dv H2 x d) → ∀ l, H1 l = none → spPick [.ref sa, .ref l] (L2.upd H1 l (.lst xs)) Q E0 := fun xs ne lx hx l hl => by
      obtain ⟨⟨r, t, e1, _⟩, ⟨gs, eg, _⟩, _⟩ := id S1'
      have S2 : StOk (L2.upd H1 l (.lst xs)) sa g c (b + 1) := S1'.same (same_new hl)
      refine ⟨sa, g, c, b, l, xs, rfl, upd_same, ?_, ?_, ne, lx, S2, fun H3 x S3 k3 hxm => ?_⟩
      · exact Ne.symm (ne_of_none e1 hl)
      · exact Ne.symm (ne_of_none eg hl)
      · obtain ⟨d, hd, hv⟩ := hx x hxm
        exact hQ H3 x d S3 ((k1.trans (Kp.of (same_new hl))).trans k3) (hv _) hd
    have wp := wtb_pos m
    refine ⟨_, rfl, rfl, _, rfl, ?_⟩
    by_cases c0 : i = 0
    · refine ifT (decide_eq_true (congrArg V.int c0)) ?_
      refine ⟨_, rfl, by show 5 ≤ sizeLine; decide, fun l hl => pick (wordsL.map V.str) (by simp [wordsL]) (by simp [wordsL]) (fun x hx => ?_) l hl⟩
      obtain ⟨z, hz, rfl⟩ := List.mem_map.mp hx
      obtain ⟨h1, h2⟩ := words_ok z hz
      exact ⟨.str z, ⟨h1, by show z.cps.size + 2 ≤ _; omega⟩, fun H2 => .str z⟩
    refine ifF (decide_eq_false fun q => c0 (by injection q)) ?_
    refine ⟨_, rfl, rfl, _, rfl, ?_⟩
    by_cases c1 : i = 1
    · refine ifT (decide_eq_true (congrArg V.int c1)) ?_
      refine ⟨_, rfl, _, _, rfl, rfl, _, _, rfl, rfl, _, _, rfl, rfl, by show 7 ≤ sizeLine; decide, fun l hl => pick (figsL.map V.int) (by simp [figsL]) (by simp [figsL]) (fun x hx => ?_) l hl⟩
      obtain ⟨z, hz, rfl⟩ := List.mem_map.mp hx
      exact ⟨.int z, ⟨figs_ok z hz, by show 16 ≤ _; omega⟩, fun H2 => .int z⟩
    refine ifF (decide_eq_false fun q => c1 (by injection q)) ?_
    refine ⟨_, rfl, rfl, _, rfl, ?_⟩
    by_cases c2 : i = 2
    · refine ifT (decide_eq_true (congrArg V.int c2)) ?_
      exact hQ H1 .non .none (S1'.weak (by omega)) k1 .non ⟨rfl, by show 2 ≤ _; omega⟩
    refine ifF (decide_eq_false fun q => c2 (by injection q)) ?_
    obtain ⟨m', rfl⟩ : ∃ m', m = m' + 1 := by
      cases m with
      | zero => have := i3 rfl; omega
      | succ m' => exact ⟨m', rfl⟩
    have ecst : cst (m' + 1) = 2 + 3 * cst m' := rfl
    have ewtb : wtb (m' + 1) = 3 + 3 * wtb m' := rfl
    refine ⟨_, rfl, sa, g, c, b + 3 * cst m', 4, rfl, by decide, by decide, S1.weak (by omega), fun H2 k S2 k2 k0 k4 => ?_⟩
    refine ⟨k, rfl, by omega, by omega, fun D hD => ?_⟩
    obtain ⟨kn, rfl⟩ : ∃ kn : Nat, k = (kn : Int) := ⟨k.toNat, by omega⟩
    rw [show ((kn : Int)).toNat = kn from Int.toNat_natCast kn]
    have nDs : D ≠ sa ∧ D ≠ g := by
      obtain ⟨⟨r, t, e1, _⟩, ⟨gs, eg, _⟩, _⟩ := id S2
      exact ⟨Ne.symm (ne_of_none e1 hD), Ne.symm (ne_of_none eg hD)⟩
    have D0 : H D = none := by
      cases q : H D with
      | none => rfl
      | some u =>
        have := k2 D u nDs.1 nDs.2 (k1 D u nDs.1 nDs.2 q)
        rw [hD] at this; cases this
    refine lc_range (lo := 0) (n := kn) (fun i H' => ∃ xs ds, H' D = some (.lst xs) ∧ DvL H' xs ds ∧ ds.length = i ∧ (∀ d ∈ ds, Drawn m' d) ∧ StOk H' sa g c (b + (kn - i) * cst m') ∧ Kp sa g H H') ?_ ?_ ?_
    · refine ⟨[], [], upd_same, DvL.nil, rfl, by simp, (S2.same (same_new hD)).weak ?_, (k1.trans k2).trans (Kp.of (same_new hD))⟩
      have : (kn - 0) * cst m' ≤ 3 * cst m' := Nat.mul_le_mul_right _ (by omega)
      omega
    · rintro i H' hi ⟨xs, ds, hD', dx, dl, da, S', k'⟩
      refine ⟨rfl, _, rfl, _, rfl, _, _, rfl, rfl, sa, g, c, b + (kn - (i + 1)) * cst m', m', ?_, by omega, S'.weak ?_, fun H3 v d S3 k3 dv hd => ?_⟩
      · show [V.ref sa, V.int (((m' + 1 : Nat) : Int) - 1)] = _
        rw [show (((m' + 1 : Nat) : Int) - 1) = (m' : Int) by omega]
      · have : (kn - i) * cst m' = (kn - (i + 1)) * cst m' + cst m' := by
          rw [show kn - i = (kn - (i + 1)) + 1 by omega, Nat.add_mul, Nat.one_mul]
        omega
      · have hD3 : H3 D = some (.lst xs) := k3 D _ nDs.1 nDs.2 hD'
        have ap : ds.all pl = true := List.all_eq_true.mpr fun d hd => val_pl d m' (da d hd).1
        have t3 : TExt H' H3 := Kp.text S' k3
        have t4 : TExt H3 (L2.upd H3 D (.lst (xs ++ [v]))) := TExt.upd hD3 (fun _ z => nomatch z)
        have lx : xs.length ≤ 4 := by rw [dx.1, dl]; omega
        have pd := val_pl d m' hd.1
        refine ⟨xs, hD3, most_line8 (by omega), xs ++ [v], ds ++ [d], upd_same, ((dx.text t3 ap).text t4 ap).app (DvL.one (dv.text t4 pd)), by simp [dl], fun x hx => ?_, ?_, ?_⟩
        · rcases List.mem_append.mp hx with h | h
          · exact da x h
          · rw [List.mem_singleton.mp h]; exact hd
        · obtain ⟨⟨r, t, e1, r1, r2, r3⟩, ⟨gs, eg, g2⟩, ⟨cs, ec, c2⟩, n1, n2, n3⟩ := S3
          have nDc : D ≠ c := fun z => by
            obtain ⟨_, _, ⟨cs0, ec0, _⟩, _⟩ := S2
            rw [← z, hD] at ec0; cases ec0
          exact ⟨⟨r, t, by rw [upd_ne (Ne.symm nDs.1)]; exact e1, r1, r2, r3⟩, ⟨gs, by rw [upd_ne (Ne.symm nDs.2)]; exact eg, g2⟩, ⟨cs, by rw [upd_ne (Ne.symm nDc)]; exact ec, c2⟩, n1, n2, n3⟩
        · intro x u h1 h2 h3
          have hx : x ≠ D := fun z => by rw [z, D0] at h3; cases h3
          rw [upd_ne hx]
          exact k3 x u h1 h2 (k' x u h1 h2 h3)
    · rintro H' ⟨xs, ds, hD', dx, dl, da, S', k'⟩
      refine ⟨D, xs, rfl, .inl ⟨SqL.of hD', fun T hT => ?_⟩⟩
      have d2 : DvL (L2.upd H' T (.tup xs)) xs ds := dx.same (same_new hT)
      refine hQ _ (.ref T) (.tuple ds) ((S'.same (same_new hT)).weak (by omega)) (k'.trans (Kp.of (same_new hT))) (.tup upd_same d2.1 d2.2) ⟨?_, ?_⟩
      · show val.vals ds m' = true
        rw [vals_all]
        exact List.all_eq_true.mpr fun d hd => (da d hd).1
      · have key : ∀ l : List PyData, (∀ d ∈ l, Drawn m' d) → wt.wts l ≤ l.length * wtb m' := fun l => by
          induction l with
          | nil => intro _; exact Nat.zero_le _
          | cons d l ih =>
            intro h
            have h1 := (h d (by simp)).2
            have h2 := ih fun x hx => h x (List.mem_cons_of_mem _ hx)
            show wt d + wt.wts l ≤ (l.length + 1) * wtb m'
            rw [Nat.add_mul, Nat.one_mul]
            omega
        have h1 := key ds da
        have h2 : ds.length * wtb m' ≤ 3 * wtb m' := Nat.mul_le_mul_right _ (by omega)
        show 3 + wt.wts ds ≤ _
        omega
end
end K88
/-! What comparison and repr ask of values and texts. -/
namespace K88
open PySem PySem.Spec PyProof.Rows L2 Evl
/-- data that _law_is takes -/
structure Nice (d : PyData) : Prop where
  sh : SeqAt.shaped d = true
  ok : d.showable = true
  sz : d.shown.length ≤ sizeLine
  vq : vq d 62 = true
  wt : wt d ≤ most
mutual
theorem vq_mono : ∀ (d : PyData) (n m : Nat), n ≤ m → vq d n = true → vq d m = true
  | .none, n, m, h, q => by have := of_decide_eq_true (show decide (0 < n) = true from q); exact decide_eq_true (by omega)
  | .bool _, n, m, h, q => by have := of_decide_eq_true (show decide (0 < n) = true from q); exact decide_eq_true (by omega)
  | .int _, n, m, h, q => by have := of_decide_eq_true (show decide (0 < n) = true from q); exact decide_eq_true (by omega)
  | .str _, n, m, h, q => by have := of_decide_eq_true (show decide (0 < n) = true from q); exact decide_eq_true (by omega)
  | .list _, _, _, _, q => by cases q
  | .dict _, _, _, _, q => by cases q
  | .tuple ds, 0, m, h, q => by cases q
  | .tuple ds, n + 1, 0, h, q => by omega
  | .tuple ds, n + 1, m + 1, h, q => vqs_mono ds n m (by omega) q
theorem vqs_mono : ∀ (ds : List PyData) (n m : Nat), n ≤ m → vq.vqs ds n = true → vq.vqs ds m = true
  | [], _, _, _, _ => rfl
  | d :: ds, n, m, h, q => by
    obtain ⟨h1, h2⟩ := Bool.and_eq_true_iff.mp (show (vq d n && vq.vqs ds n) = true from q)
    show (vq d m && vq.vqs ds m) = true
    rw [vq_mono d n m h h1, vqs_mono ds n m h h2] <;> rfl
end
theorem asc_small : ∀ c ∈ smallS.cps.toList, c < 128 := by decide
theorem wordS_asc {s : Str} (h : wordS s = true) : ∀ c ∈ s.cps.toList, c < 128 := fun c hc => by
  obtain ⟨_, h2⟩ := Bool.and_eq_true_iff.mp h
  exact asc_small c (of_decide_eq_true (List.all_eq_true.mp h2 c hc))
theorem strOk_asc {s : Str} (h : ∀ c ∈ s.cps.toList, c < 128) : PyData.strOk s = true := by
  unfold PyData.strOk
  rw [Array.all_eq_true']
  intro c hc
  have := h c (by simpa using hc)
  exact decide_eq_true (by omega)
mutual
theorem val_lay : ∀ (d : PyData) (n : Nat), val d n = true → d.canLay0 = true ∧ d.depth ≤ n ∧ d.showable = true ∧ d.shown.length + 2 ≤ 10 * wt d
  | .tuple ds, 0, h => by cases h
  | .tuple ds, n + 1, h => by
    obtain ⟨h1, h2, h3, h4⟩ := vals_lay ds n h
    refine ⟨by simpa [PyData.canLay0] using h1, by show PyData.depthAll ds + 1 ≤ n + 1; omega, by simpa [PyData.showable] using h3, ?_⟩
    have e : (PyData.tuple ds).shown = tupleText (PyData.shownAll ds) := by simp [PyData.shown]
    rw [e]
    have e2 : wt (.tuple ds) = 3 + wt.wts ds := rfl
    have tl : (tupleText (PyData.shownAll ds)).length ≤ 3 + piled (PyData.shownAll ds) := by
      unfold tupleText
      rw [strLen_append, strLen_append]
      have l1 : ("(" : Str).length = 1 := by decide
      have l2 : ((if (PyData.shownAll ds).length == 1 then ",)" else ")" : String) : Str).length ≤ 2 := by
        split
        · show (",)" : Str).length ≤ 2; decide
        · show (")" : Str).length ≤ 2; decide
      by_cases hn : PyData.shownAll ds = []
      · rw [hn] at l2 ⊢
        have l3 : (Str.join ", " []).length = 0 := by decide
        omega
      · have := join_length_add _ hn
        omega
    omega
  | .none, _, _ => by
    refine ⟨by simp [PyData.canLay0], by simp [PyData.depth], by simp [PyData.showable], ?_⟩
    have : PyData.none.shown = ("None" : Str) := by simp [PyData.shown]
    rw [this]
    decide
  | .int i, _, h => by
    have h1 := of_decide_eq_true (show figI i = true from h)
    have h2 : i.natAbs < 10 ^ 12 := by split at h1 <;> omega
    refine ⟨by simp [PyData.canLay0], by simp [PyData.depth], by simp [PyData.showable, log_small h2], ?_⟩
    have e : (PyData.int i).shown = Str.ofString (toString i) := by simp [PyData.shown]
    rw [e]
    have := len_num (i := i) h
    show _ ≤ 10 * 16
    omega
  | .str s, _, h => by
    have hs : wordS s = true := h
    have ha := wordS_asc hs
    refine ⟨by simp [PyData.canLay0, strOk_asc ha], by simp [PyData.depth], by simp [PyData.showable], ?_⟩
    have e : (PyData.str s).shown = reprText s := by simp [PyData.shown]
    rw [e]
    have := StrLaws.reprText_len s (fun c hc => by have := ha c hc; exact Nat.lt_of_lt_of_le this (by decide))
    show _ ≤ 10 * (s.cps.size + 2)
    have e2 : s.length = s.cps.size := rfl
    omega
  | .bool _, _, h => by cases h
  | .list _, _, h => by cases h
  | .dict _, _, h => by cases h
theorem vals_lay : ∀ (ds : List PyData) (n : Nat), val.vals ds n = true → PyData.canLayAll0 ds = true ∧ PyData.depthAll ds ≤ n ∧ PyData.showableAll ds = true ∧ piled (PyData.shownAll ds) ≤ 10 * wt.wts ds
  | [], _, _ => ⟨rfl, Nat.zero_le _, rfl, by simp [PyData.shownAll, piled_nil]⟩
  | d :: ds, n, h => by
    obtain ⟨h1, h2⟩ := Bool.and_eq_true_iff.mp (show (val d n && val.vals ds n) = true from h)
    obtain ⟨a1, a2, a3, a4⟩ := val_lay d n h1
    obtain ⟨b1, b2, b3, b4⟩ := vals_lay ds n h2
    refine ⟨by simp [PyData.canLayAll0, a1, b1], by show max d.depth (PyData.depthAll ds) ≤ n; omega, by simp [PyData.showableAll, a3, b3], ?_⟩
    have e : PyData.shownAll (d :: ds) = d.shown :: PyData.shownAll ds := by simp [PyData.shownAll]
    rw [e, piled_cons]
    show _ ≤ 10 * (wt d + wt.wts ds)
    omega
end
theorem nice_val {d : PyData} {n : Nat} (h : val d n = true) (hn : n ≤ 59) (hw : wt d ≤ 1000000) : Nice d := by
  obtain ⟨h1, h2, h3, h4⟩ := val_lay d n h
  refine ⟨?_, h3, most_line9 (by omega), vq_mono d (n + 1) 62 (by omega) (val_vq d n h), by unfold most; omega⟩
  unfold SeqAt.shaped
  rw [h1, decide_eq_true (show d.depth ≤ 64 by omega)]
  rfl
theorem nice_str {s : Str} (h : ∀ c ∈ s.cps.toList, c < 128) (hl : s.length ≤ 100000) : Nice (.str s) := by
  refine ⟨?_, by simp [PyData.showable], ?_, rfl, by show s.length + 2 ≤ _; unfold most; omega⟩
  · unfold SeqAt.shaped
    rw [show (PyData.str s).canLay0 = true by simp [PyData.canLay0, strOk_asc h]]
    rfl
  · have e : (PyData.str s).shown = reprText s := by simp [PyData.shown]
    rw [e]
    have := StrLaws.reprText_len s (fun c hc => by have := h c hc; exact Nat.lt_of_lt_of_le this (by decide))
    exact most_line9 (by omega)
mutual
theorem eqv_val : ∀ (d e : PyData) (n m : Nat), val d n = true → val e m = true → PyData.eqv d e = true → d = e
  | .tuple ds, .tuple es, 0, _, h, _, _ => by cases h
  | .tuple ds, .tuple es, n + 1, 0, _, h, _ => by cases h
  | .tuple ds, .tuple es, n + 1, m + 1, h1, h2, h => by
    have := eqvs_val ds es n m h1 h2 (by simpa [PyData.eqv] using h)
    rw [this]
  | .none, .none, _, _, _, _, _ => rfl
  | .int i, .int j, _, _, _, _, h => by
    have : i = j := by simpa [PyData.eqv] using h
    rw [this]
  | .str i, .str j, _, _, _, _, h => by
    have : i = j := by simpa [PyData.eqv] using h
    rw [this]
  | .bool _, _, _, _, h, _, _ => by cases h
  | .list _, _, _, _, h, _, _ => by cases h
  | .dict _, _, _, _, h, _, _ => by cases h
  | .tuple _, .none, _, _, _, _, h => by simp [PyData.eqv] at h
  | .tuple _, .int _, _, _, _, _, h => by simp [PyData.eqv] at h
  | .tuple _, .str _, _, _, _, _, h => by simp [PyData.eqv] at h
  | .tuple _, .bool _, _, _, _, h, _ => by cases h
  | .tuple _, .list _, _, _, _, h, _ => by cases h
  | .tuple _, .dict _, _, _, _, h, _ => by cases h
  | .none, .int _, _, _, _, _, h => by simp [PyData.eqv] at h
  | .none, .str _, _, _, _, _, h => by simp [PyData.eqv] at h
  | .none, .tuple _, _, _, _, _, h => by simp [PyData.eqv] at h
  | .none, .bool _, _, _, _, h, _ => by cases h
  | .none, .list _, _, _, _, h, _ => by cases h
  | .none, .dict _, _, _, _, h, _ => by cases h
  | .int _, .none, _, _, _, _, h => by simp [PyData.eqv] at h
  | .int _, .str _, _, _, _, _, h => by simp [PyData.eqv] at h
  | .int _, .tuple _, _, _, _, _, h => by simp [PyData.eqv] at h
  | .int _, .bool _, _, _, _, h, _ => by cases h
  | .int _, .list _, _, _, _, h, _ => by cases h
  | .int _, .dict _, _, _, _, h, _ => by cases h
  | .str _, .none, _, _, _, _, h => by simp [PyData.eqv] at h
  | .str _, .int _, _, _, _, _, h => by simp [PyData.eqv] at h
  | .str _, .tuple _, _, _, _, _, h => by simp [PyData.eqv] at h
  | .str _, .bool _, _, _, _, h, _ => by cases h
  | .str _, .list _, _, _, _, h, _ => by cases h
  | .str _, .dict _, _, _, _, h, _ => by cases h
theorem eqvs_val : ∀ (ds es : List PyData) (n m : Nat), val.vals ds n = true → val.vals es m = true → PyData.eqvAll ds es = true → ds = es
  | [], [], _, _, _, _, _ => rfl
  | [], _ :: _, _, _, _, _, h => by simp [PyData.eqvAll] at h
  | _ :: _, [], _, _, _, _, h => by simp [PyData.eqvAll] at h
  | d :: ds, e :: es, n, m, h1, h2, h => by
    obtain ⟨a1, a2⟩ := Bool.and_eq_true_iff.mp (show (val d n && val.vals ds n) = true from h1)
    obtain ⟨b1, b2⟩ := Bool.and_eq_true_iff.mp (show (val e m && val.vals es m) = true from h2)
    have h' : PyData.eqv d e = true ∧ PyData.eqvAll ds es = true := by simpa [PyData.eqvAll] using h
    rw [eqv_val d e n m a1 b1 h'.1, eqvs_val ds es n m a2 b2 h'.2]
end
end K88
namespace K88
open PySem PySem.Spec PyProof.Rows L2 Evl
theorem FunD.okG {P : Program} {w : World} {K : PySem.W.Frag} {mg : Str → Option Value} {base : Heap} {x qual : Str} {params : Arguments} {body : List Stmt} {scope : Scope} {dvs : List V} {kws : List (Str × V)} {f : Addr} {fd : FuncData} {CX : CXT} {N ps : List Str} {k : Nat} {sp : Sp} (F : FunD K x qual params body scope dvs kws f fd) (S : FnScope N ps scope) (len : ∀ vs H Q E, sp vs H Q E → vs.length = ps.length)
    (hbody : ∀ (cdv : Value) (A : Around) (outer : List Env) (s : Shared) (H : Hp) (vs : List V) (Q : VK) (E : XK), Room k (A.deeper (envOfC qual scope s.heap.objs.size f cdv)) → A.guards = some [] → PySem.W.codeIn K cdv qual = true → fd.code = cdv → sp vs H Q E →
      ∃ t, PSs (cxOf CX P w K mg base N qual scope f cdv A outer s H E) body t ∧ t { nx := fun _ H' => Q .non H', rt := Q } (start N vs) H) : FnG P w K mg base CX (k + 1) f fd ps sp := by
  obtain ⟨oc, od, dV, kV, doc, pm, an, cdv, ct, osl, rfl, lk, hcd, _, _⟩ := F.ex
  refine ⟨len, fun A outer s H args us vs Q E hr hg e0 hb r h => ?_⟩
  refine LamX.run_ofS lk hcd S hr e0 hb r (len _ _ _ _ h) fun hr' => ?_
  exact hbody cdv A outer s H vs Q E hr' hg hcd rfl h
theorem units70 {k : Nat} {A : Around} (hr : Room k A) : A.units + 70 < cLine := by have := hr.un; omega
theorem scIs : FnScope ["found", "due"] ["found", "due"] (defScope (top 38)) := ⟨rfl, rfl, rfl, by decide +kernel, rfl, by decide +kernel, by decide +kernel⟩
def spIs : Sp := fun vs H Q E => ∃ v u d, vs = [v, u] ∧ Dv H v d ∧ Dv H u d ∧ Nice d ∧ ∀ H', Same H H' → Q (.bl true) H'
section
variable {P : Program} {w : World} {K : PySem.W.Frag} {mg : Str → Option Value} {base : Heap} {f f1 f2 : Addr} {fd fd1 fd2 : FuncData}
theorem ok_is (G : Gl8 mg) (F : FnP K "_law_is" 38 f fd) (F1 : DefAt K mg "_law_plain" 37 f1 fd1) : FnG P w K mg base CX0 63 f fd ["found", "due"] spIs := by
  have G1 : FnOk P w K mg base CX0 62 f1 fd1 ["value"] (spPla 62) := ok_plain G F1 62
  have b1 : Binds K fd1 ["value"] [] := bind1 F1.fn fun _ _ _ _ _ _ _ => rfl
  refine FunD.okG F scIs (fun vs H Q E h => ?_) (fun cdv A outer s H vs Q E hr hg _ _ h => ⟨_, pss_one (ps_ret (pe_and (pe_call G1 hr rfl F1.g F1.fn.kp b1 .nil pass0 (pa_cons (pv 0) pa_nil)) (pe_and (pe_cmpR (op_eqD hr.units) (pv 0) (pv 1) (nomark _)) (pe_and (pe_cmpR (op_eqD hr.units) (pv 1) (pv 0) (nomark _))
    (pe_one (pe_cmpR op_eq (pe_callB (call_reprD hg (units70 hr)) rfl G.repr (by decide +kernel) (pa_cons (pv 0) pa_nil)) (pe_callB (call_reprD hg (units70 hr)) rfl G.repr (by decide +kernel) (pa_cons (pv 1) pa_nil)) (nomark _))))))), ?_⟩)
  · obtain ⟨_, _, _, rfl, _⟩ := h
    rfl
  obtain ⟨v, u, d, rfl, hv, hu, N, hQ⟩ := h
  have er := SeqAt.eqv_refl d (SeqAt.canLay_of_shaped N.sh)
  refine ⟨_, rfl, v, d, rfl, hv, N.vq, N.wt, fun H1 s1 => ⟨true, rfl, iteT ?_⟩⟩
  refine ⟨_, rfl, _, rfl, d, d, (hv.same s1).dp, (hu.same s1).dp, N.sh, N.sh, _, rfl, ifT er ?_⟩
  refine ⟨_, rfl, _, rfl, d, d, (hu.same s1).dp, (hv.same s1).dp, N.sh, N.sh, _, rfl, ifT er ?_⟩
  refine ⟨_, rfl, _, d, rfl, (hv.same s1).dp, N.ok, N.sh, N.sz, _, rfl, _, d, rfl, (hu.same s1).dp, N.ok, N.sh, N.sz, rfl, ?_⟩
  have : decide (V.str d.shown = V.str d.shown) = true := decide_eq_true rfl
  rw [this]
  exact hQ H1 s1
end
end K88
namespace K88
open PySem PySem.Spec PyProof.Rows L2 Evl LamX
section
variable {X : Cx} {k i : Nat} {fr0 : List Addr} {f c' : Addr} {q a : Str} {s0 : Shared} {H0 : Hp} {tl : XK → Hp → VK → Prop} {E : L2.St → XK} {p1 p2 : Pos}
/-- a(), where what is raised hangs on the slots -/
theorem pe_callActS (F : ActOk X.prog X.w X.K X.mg X.base k fr0 f c' q s0 H0 tl) (hU : Un fr0 [] H0 X.H_0 s0.heap X.s_0.heap) (hfr : ∀ x ∈ frs X.stack, x ∈ fr0 ∨ s0.heap.objs.size ≤ x) (hfr2 : ∀ x ∈ X.fs, x ∈ fr0 ∨ s0.heap.objs.size ≤ x) (hex : X.ex = []) (hr : Room (k + 1) X.A) (hx : ∀ σ, PassesAt (L2.CX X.prog X.w) X σ (E σ))
    (hN : X.N[i]? = some a) (hv : Vis X.env.scope a) (hd : (a == ("__debug__" : Str)) = false := by decide) (hcd : (a == ("__classdict__" : Str)) = false := by decide) :
    PE X (.Call (.Name a p1) [] [] p2) (fun σ H Q => σ[i]? = some (some (.ref f)) ∧ H c' = some (CodeO c' q) ∧ tl (E σ) H Q) := by
  refine ⟨fun pins s σ H Q I h => ?_⟩
  obtain ⟨hs, hc, ht⟩ := h
  refine wpAny_Call_Name_kw (thn ((pe_var (pos := p1) (i := i) hN hv hd hcd).run pins s σ H (fun v H1 => v = .ref f ∧ H1 = H) I ⟨.ref f, hs, rfl, rfl⟩) fun u s1 ⟨v, H1, I1, r1, q1⟩ => ?_)
  obtain ⟨ev, eH⟩ := q1
  subst ev
  subst eH
  obtain rfl : u = Value.ref f := r1
  have b1 : Un X.fs [] X.H_0 H1 X.s_0.heap s1.heap := by rw [← hex]; exact I1.base
  have un : Un fr0 [] H0 H1 s0.heap s1.heap := unT hU b1 hfr2
  obtain ⟨oc, od, fd, sl, ef⟩ := F.fn
  refine PySem.W.callWith_F0 ⟨_, _, _, _, un.keep f _ ef F.hn F.nf (by simp)⟩ ?_
  refine wpAny_call (codeAny_mono (F.run X.A X.stack s1 H1 Q (E σ) hr I1.env0 un hfr hc ht) fun r s' hq => ?_)
  cases r with
  | error e => exact hx σ pins H1 s1 e s' I1 hq
  | ok fl => cases fl with
    | ret u => exact I1.after hq
    | next => exact False.elim hq
    | brk => exact False.elim hq
    | cont => exact False.elim hq
end
def Mono (tl : XK → Hp → VK → Prop) : Prop := ∀ (E1 E2 : XK) (H : Hp) (Q1 Q2 : VK), (∀ cls d H', E1 cls d H' → E2 cls d H') → (∀ v H', Q1 v H' → Q2 v H') → tl E1 H Q1 → tl E2 H Q2
theorem scCau : FnScope ["action", "found", "error"] ["action"] (defScope (top 40)) := ⟨rfl, rfl, rfl, by decide +kernel, rfl, by decide +kernel, by decide +kernel⟩
/-- what _law_caught(action) wishes of the action -/
def TTc (K : PySem.W.Frag) (CM : Addr) (tl : XK → Hp → VK → Prop) (H : Hp) (Q : VK) : Prop := ∀ fo, H fo = none →
  tl (fun cls d H' => PySem.W.exmOne K cls (.ref CM) = some true ∧ H' fo = some (.lst []) ∧ ∀ a p, H' a = none → (L2.upd (L2.upd H' fo (.lst [.ref a])) a (ErrO cls d a)) p = none → Q (.ref a) (L2.upd (L2.upd (L2.upd H' fo (.lst [.ref a])) a (ErrO cls d a)) p (.lst []))) (L2.upd H fo (.lst []))
    (fun _ H' => H' fo = some (.lst []) ∧ ∀ p, H' p = none → Q .non (L2.upd H' p (.lst [])))
section
variable {P : Program} {w : World} {K : PySem.W.Frag} {mg : Str → Option Value} {base : Heap} {g CM : Addr} {fd : FuncData}
theorem run_caught {A : Around} {outer : List Env} {s : Shared} {H : Hp} {Q : VK} {E : XK} {k : Nat} {f c' : Addr} {q : Str} {tl : XK → Hp → VK → Prop} (mono : Mono tl)
    (F : FnP K "_law_caught" 40 g fd) (gM : mg "MakeError" = some (.ref CM)) (hr : Room (k + 2) A) (e0 : Env0 P w K mg base A outer s H) (AO : ActOk P w K mg base k (frs outer) f c' q s H tl) (hc : H c' = some (CodeO c' q)) (h : TTc K CM tl H Q) :
    codeAny (model P w) A (.call (.ref g) ⟨[.ref f], []⟩) (CR CX0 outer P w H s Q E) s := by
  have bb : BindsTo s fd ⟨[.ref f], []⟩ ((["action"] : List Str).zip [.ref f]) := F.bindsA (ps := ["action"]) (fun _ _ _ _ _ _ us hl => match us, hl with | [_], _ => rfl) s [.ref f] rfl
  obtain ⟨oc, od, dV, kV, doc, pm, an, cdv, ct, osl, rfl, lk, hcd, _, _⟩ := F.ex
  refine run_ofS (N := ["action", "found", "error"]) (ps := ["action"]) (us := [.ref f]) (vs := [.ref f]) lk hcd scCau hr e0 bb (.cons rfl .nil) rfl fun hr' => ?_
  refine ⟨_, PSs.nox (pss_cons (ps_set (i := 1) scCau.nd rfl (Or.inl rfl) (pe_lst pa_nil))
    (pss_cons (ps_try_hold (i := 2) (tb := fun W => tDrop fun σ H Q => σ[0]? = some (some (.ref f)) ∧ H c' = some (CodeO c' q) ∧ tl (WE W σ) H Q) (ts := fun a cls d => tDrop (tBM K "list" rAppend (tVar 1) (tCons (tVar 2) tNil))) (Wout := fun _ _ _ _ => False) rfl rfl rfl scCau.nd rfl rfl ⟨rfl, by decide, Or.inl gM⟩ L2.takes0
      (fun W pn xe tk _ => pss_one (ps_expr (pe_callActS (i := 0) AO Un.refl (fun x hx => ?_) (fun x hx => .inl hx) rfl hr' (fun σ => passAt tk σ) rfl (Or.inl rfl))))
      (fun a oe cls d pn hz hf => pss_one (ps_expr (pe_bm PySem.F.plainAttrs_list PySem.F.slot_list_append PySem.F.type_list_append mt_append (pv 1) (pa_cons (pv 2) pa_nil)))))
    (pss_one (ps_ret (pe_ifExp (pt_cmpR (op_nE hr'.units0) (pv 1) (pe_lst pa_nil) (nomark _)) (pe_ix ix_list (pv 1) pe_int (fun _ _ => rfl)) pe_non))))), ?_⟩
  · have e1 : frs (envOfC "_law_caught" (defScope (top 40)) s.heap.objs.size g cdv :: outer) = s.heap.objs.size :: frs outer := rfl
    have hx : x ∈ s.heap.objs.size :: frs outer := hx
    rcases List.mem_cons.mp hx with z | z
    · exact .inr (Nat.le_of_eq z.symm)
    · exact .inl z
  · refine ⟨by show 0 ≤ sizeLine; decide, fun fo hfo => ?_⟩
    have hc1 : (L2.upd H fo (.lst [])) c' = some (CodeO c' q) := same_new hfo _ _ hc
    refine ⟨rfl, hc1, mono _ _ _ _ _ ?_ ?_ (h fo hfo)⟩
    · rintro cls d H' ⟨hx, hf, hq⟩
      refine ⟨true, hx, fun _ a ha => ?_, fun z => nomatch z⟩
      have naf : a ≠ fo := fun z => by rw [z, hf] at ha; cases ha
      refine ⟨_, rfl, .inl ⟨rfl, _, SqL.of hf⟩, _, rfl, fo, [], .ref a, rfl, rfl, hf, by decide, ?_, ?_⟩
      · show (L2.upd H' fo (.lst ([] ++ [.ref a]))) a = none
        rw [upd_ne naf]; exact ha
      · refine ⟨_, rfl, by show 0 ≤ sizeLine; decide, fun p hp => ?_⟩
        have hfo2 : (L2.upd (L2.upd H' fo (.lst [.ref a])) a (ErrO cls d a)) fo = some (.lst [.ref a]) := by rw [upd_ne (Ne.symm naf)]; exact upd_same
        have np := ne_of_none hfo2 hp
        have hfo3 : (L2.upd (L2.upd (L2.upd H' fo (.lst [.ref a])) a (ErrO cls d a)) p (.lst [])) fo = some (.lst [.ref a]) := by rw [upd_ne np]; exact hfo2
        refine ⟨fo, p, [.ref a], rfl, rfl, np, SqL.of hfo3, SqL.of upd_same, _, rfl, iteT ?_⟩
        exact ⟨_, rfl, fo, _, _, _, rfl, rfl, SqL.of hfo3, atI_nat (j := 0) (v := .ref a) rfl, hq a p ha hp⟩
    · rintro v H' ⟨hf, hq⟩
      refine ⟨_, rfl, by show 0 ≤ sizeLine; decide, fun p hp => ?_⟩
      have np := ne_of_none hf hp
      refine ⟨fo, p, [], rfl, rfl, np, SqL.of (by rw [upd_ne np]; exact hf), SqL.of upd_same, _, rfl, iteF ?_⟩
      exact hq p hp
end
end K88
namespace K88
open PySem PySem.Spec PyProof.Rows L2 Evl LamX
theorem scWrd : FnScope ["action", "error", "word", "is_one", "told"] ["action"] (defScope (top 41)) := ⟨rfl, rfl, rfl, by decide +kernel, rfl, by decide +kernel, by decide +kernel⟩
theorem tabs_upd {T : List (Addr × Str)} {H : Hp} {x : Addr} {o : HO} (t : Tabs T H) (h : H x = none ∨ ∃ xs, H x = some (.lst xs)) : Tabs T (L2.upd H x o) := fun p hp => by
  obtain ⟨ps, h1, h2, h3⟩ := t p hp
  have n1 : p.1 ≠ x := fun z => by
    rw [z] at h1
    rcases h with h | ⟨xs, h⟩ <;> rw [h1] at h <;> cases h
  refine ⟨ps, by rw [upd_ne n1]; exact h1, h2, fun pos cv hc => ?_⟩
  obtain ⟨c, e1, e2⟩ := h3 pos cv hc
  have n2 : c ≠ x := fun z => by
    rw [z] at e2
    rcases h with h | ⟨xs, h⟩ <;> rw [e2] at h <;> cases h
  exact ⟨c, e1, by rw [upd_ne n2]; exact e2⟩
theorem extN_new {H H' : Hp} {x : Addr} {o : HO} (e : ExtN H H') (h : H' x = none) : ExtN H (L2.upd H' x o) := fun b u h1 h2 => by
  have q := e b u h1 h2
  rw [upd_ne (ne_of_none q h)]
  exact q
theorem extN_upd {H H' : Hp} {x : Addr} {o : HO} (e : ExtN H H') (h : ∀ u, H x = some u → ∃ ps, u = .tbl ps) : ExtN H (L2.upd H' x o) := fun b u h1 h2 => by
  by_cases hb : b = x
  · rw [hb] at h1
    obtain ⟨ps, z⟩ := h u h1
    exact absurd z (h2 ps)
  · rw [upd_ne hb]
    exact e b u h1 h2
/-- what is new since H, at H' -/
theorem fresh_of {H H' : Hp} {x : Addr} (e : ExtN H H') (h : H' x = none) : ∀ u, H x = some u → ∃ ps, u = .tbl ps := fun u hu => by
  by_cases q : ∃ ps, u = .tbl ps
  · exact q
  · have := e x u hu fun ps z => q ⟨ps, z⟩
    rw [h] at this
    cases this
/-- what _law_word(action) wishes of the action: NoText with 0, or a value -/
def TTw (T : List (Addr × Str)) (C : Addr) (tl : XK → Hp → VK → Prop) (H : Hp) (Q : VK) : Prop := ∀ H3 E1 Q1, ExtN H H3 → Tabs T H3 →
  (∀ H' dd, Same H3 H' → H' dd = some (.xd [("line", .int 0)]) → (∀ H4 tp, ExtN H H4 → Tabs T H4 → H4 tp = some (.tup [.str "text", .int 0]) → Q (.ref tp) H4) → E1 (.ref C) (some dd) H') →
  (∀ v H', Same H3 H' → (∀ H4, TExt H' H4 → ExtN H H4 → Tabs T H4 → Q v H4) → Q1 v H') → tl E1 H3 Q1
section
variable {P : Program} {w : World} {K : PySem.W.Frag} {mg : Str → Option Value} {base : Heap} {g gc C fI CM CU CT cw pw : Addr} {fd fdc : FuncData}
theorem run_word {A : Around} {outer : List Env} {s : Shared} {H : Hp} {Q : VK} {E : XK} {k : Nat} {f c' : Addr} {q : Str} {T : List (Addr × Str)} {tl : XK → Hp → VK → Prop} (mono : Mono tl)
    (G : Gl8 mg) (F : FnP K "_law_word" 41 g fd) (Fc : DefAt K mg "_law_caught" 40 gc fdc) (EA : ErrAll P K mg "NoText" "line" C fI) (gM : mg "MakeError" = some (.ref CM)) (gU : mg "Used" = some (.ref CU)) (gT : mg "TooMany" = some (.ref CT))
    (hM : PySem.W.exmOne K (.ref C) (.ref CM) = some true) (kU : PySem.W.kitOne K (.ref C) (.ref CU) = some false) (kT : PySem.W.kitOne K (.ref C) (.ref CT) = some false) (kN : PySem.W.kitOne K (.ref C) (.ref C) = some true)
    (hcode : fd.code = .ref cw) (TB : TabB base mg cw pw) (hmT : (pw, ("_law_word.<locals>.<lambda>" : Str)) ∈ T) (hu : ∀ p ∈ T, p.1 = pw → p.2 = ("_law_word.<locals>.<lambda>" : Str))
    (hr : Room (k + 4) A) (e0 : Env0 P w K mg base A outer s H) (AO : ActOk P w K mg base k (frs outer) f c' q s H tl) (hc : H c' = some (CodeO c' q)) (hT : Tabs T H) (h : TTw T C tl H Q) :
    codeAny (model P w) A (.call (.ref g) ⟨[.ref f], []⟩) (CR CX0 outer P w H s Q E) s := by
  have bb : BindsTo s fd ⟨[.ref f], []⟩ ((["action"] : List Str).zip [.ref f]) := F.bindsA (ps := ["action"]) (fun _ _ _ _ _ _ us hl => match us, hl with | [_], _ => rfl) s [.ref f] rfl
  obtain ⟨oc, od, dV, kV, doc, pm, an, cdv, ct, osl, rfl, lk, hcd, _, _⟩ := F.ex
  have ecd : cdv = .ref cw := hcode
  subst ecd
  refine run_ofS (N := ["action", "error", "word", "is_one", "told"]) (ps := ["action"]) (us := [.ref f]) (vs := [.ref f]) lk hcd scWrd hr e0 bb (.cons rfl .nil) rfl fun hr' => ?_
  refine ⟨_, PSs.nox (pss_cons (ps_set (i := 4) scWrd.nd rfl (Or.inr rfl) (pe_lst pa_nil))
    (pss_cons (ps_set (i := 1) scWrd.nd rfl (Or.inl rfl) (pe_lamcallG (k := k + 1) (T := T) (TT := fun c2 tl2 E H Q => Mono tl2 ∧ TTc K CM tl2 H Q) (CXx := CX0) (E := E0) (t := fun E => tBM K "list" rAppend (tVar 4) (tCons (fun σ H Q => σ[0]? = some (some (.ref f)) ∧ H c' = some (CodeO c' q) ∧ tl E H Q) tNil)) rfl Fc.g Fc.fn.kp
      (fun f2 c2 s2 H2 Q2 tl2 AO2 e2 hc2 ht => run_caught ht.1 Fc.fn gM hr' e2 AO2 hc2 ht.2) pass0 TB rfl hmT hu (lamS_by (sc := defScope (top 41)) (by decide +kernel)) rfl (fun _ _ _ _ _ => rfl)
      (fun pins σ H2 s2 I A2 outer2 s3 H3 E2 f2 c2 hr2 un hfo => ?hbody)))
    (pss_cons (ps_if (pt_cmpR op_isN (pv 1) pe_non (nomark _)) (pss_one (ps_ret (pe_ix ix_list (pv 4) pe_int (fun _ _ => rfl)))) pss_nil)
    (pss_cons (ps_if (pt_val (pe_callB (call_isErr EA.c EA.s) rfl G.isi (by decide +kernel) (pa_cons (pv 1) (pa_cons (pe_glob (v := .ref CU) rfl gU rfl) pa_nil)))) (pss_one ps_never) pss_nil)
    (pss_cons (ps_if (pt_val (pe_callB (call_isErr EA.c EA.s) rfl G.isi (by decide +kernel) (pa_cons (pv 1) (pa_cons (pe_glob (v := .ref CT) rfl gT rfl) pa_nil)))) (pss_one ps_never) pss_nil)
    (pss_cons (ps_if (pt_val (pe_callB (call_isErr EA.c EA.s) rfl G.isi (by decide +kernel) (pa_cons (pv 1) (pa_cons (pe_glob (v := .ref C) rfl EA.t.gC rfl) pa_nil))))
      (pss_one (ps_ret (pe_tup (pa_cons pe_str (pa_cons (pe_errF EA.t.ga EA.t.gg EA.t.exC EA.t.hdC EA.t.noN (pv 1)) pa_nil))))) pss_nil)
    (pss_cons ps_never (pss_one ps_never)))))))), ?hread⟩
  case hbody =>
    have eW : frs (envOfC "_law_word" (defScope (top 41)) s.heap.objs.size g (.ref cw) :: outer) = s.heap.objs.size :: frs outer := rfl
    have lt3 : s.heap.objs.size < s3.heap.objs.size := by
      obtain ⟨m, ⟨o, es, ep, ho, _⟩, _⟩ := I.loc
      obtain ⟨o', ho'⟩ := un.there _ _ ho (by simp)
      exact Heap.lt_size ho'
    have sz : s.heap.objs.size ≤ s2.heap.objs.size := I.sz
    have b1 : Un (frs outer) [] H H2 s.heap s2.heap := I.base
    have hU : Un (frs outer) [] H H3 s.heap s3.heap := unT b1 un fun x hx => by
      have hx : x ∈ s.heap.objs.size :: frs outer := hx
      rcases List.mem_cons.mp hx with z | z
      · exact .inr (Nat.le_of_eq z.symm)
      · exact .inl z
    have fr2 : ∀ x ∈ frs outer2, x ∈ frs outer ∨ s.heap.objs.size ≤ x := fun x hx => by
      rcases hfo x hx with z | z
      · have z : x ∈ s.heap.objs.size :: frs outer := z
        rcases List.mem_cons.mp z with z | z
        · exact .inr (Nat.le_of_eq z.symm)
        · exact .inl z
      · exact .inr (Nat.le_trans sz z)
    refine pe_bm PySem.F.plainAttrs_list PySem.F.slot_list_append PySem.F.type_list_append mt_append (pv 4) (pa_cons (pe_callAct (i := 0) AO hU (fun x hx => ?_) fr2 rfl hr2 (passes_call (takes_of rfl rfl rfl rfl) (fun _ _ _ _ h => h)) rfl (Or.inr (Or.inr rfl))) pa_nil)
    have hx : x ∈ s3.heap.objs.size :: frs outer2 := hx
    rcases List.mem_cons.mp hx with z | z
    · exact .inr (by rw [z]; exact Nat.le_of_lt lt3)
    · exact fr2 x z
  case hread =>
    refine ⟨by show 0 ≤ sizeLine; decide, fun to hto => ?_⟩
    have s1 : Same H (L2.upd H to (.lst [])) := same_new hto
    have hto1 : (L2.upd H to (.lst [])) to = some (.lst []) := upd_same
    have hT1 : Tabs T (L2.upd H to (.lst [])) := tabs_upd hT (.inl hto)
    have eT : ∀ {H' : Hp}, ExtN (L2.upd H to (.lst [])) H' → ExtN H H' := fun {H'} e => (ExtN.of s1).trans e
    generalize L2.upd H to (.lst []) = Ht at s1 hto1 hT1 eT ⊢
    refine ⟨hT1, fun Ha c2 eN hTa hc2 => ⟨fun E1 E2 Hx Q1 Q2 hE hQ hh => ?_, fun fo hfo => ?_⟩⟩
    · obtain ⟨v, h1, h2, h3, h4, h5⟩ := hh
      refine ⟨v, h1, h2, h3, h4, mono _ _ _ _ _ hE (fun u Hu hu => ?_) h5⟩
      obtain ⟨l, xs, y, a1, a2, a3, a4, a5⟩ := hu
      exact ⟨l, xs, y, a1, a2, a3, a4, hQ _ _ a5⟩
    have htoA : Ha to = some (.lst []) := eN to _ hto1 (fun _ z => nomatch z)
    have nft : to ≠ fo := ne_of_none htoA hfo
    have eHa : ExtN H Ha := eT eN
    have frF := fresh_of eHa hfo
    have frT : ∀ u, H to = some u → ∃ ps, u = .tbl ps := fun u hu => by rw [hto] at hu; cases hu
    have s3 : Same Ha (L2.upd Ha fo (.lst [])) := same_new hfo
    have hT3 : Tabs T (L2.upd Ha fo (.lst [])) := tabs_upd hTa (.inl hfo)
    have hfo3 : (L2.upd Ha fo (.lst [])) fo = some (.lst []) := upd_same
    have hto3 : (L2.upd Ha fo (.lst [])) to = some (.lst []) := by rw [upd_ne nft]; exact htoA
    have eH3 : ExtN H (L2.upd Ha fo (.lst [])) := eHa.trans (ExtN.of s3)
    generalize L2.upd Ha fo (.lst []) = H3 at s3 hT3 hfo3 hto3 eH3 ⊢
    have hc3 : H3 c' = some (CodeO c' q) := eH3 c' _ hc (fun _ z => nomatch z)
    refine ⟨_, rfl, .inl ⟨rfl, _, SqL.of hto3⟩, rfl, hc3, h H3 _ _ eH3 hT3 (fun H' dd s4 hdd hq => ?_) (fun v H' s4 hq => ?_)⟩
    · have hfo4 := s4 _ _ hfo3
      refine ⟨hM, hfo4, fun a p ha hp => ?_⟩
      have naf : a ≠ fo := fun z => by rw [z, hfo4] at ha; cases ha
      have nda : dd ≠ a := ne_of_none hdd ha
      have ndf : dd ≠ fo := fun z => by rw [z, hfo4] at hdd; cases hdd
      have haa : (L2.upd (L2.upd H' fo (.lst [.ref a])) a (ErrO (.ref C) (some dd) a)) a = some (ErrO (.ref C) (some dd) a) := upd_same
      have hda : (L2.upd (L2.upd H' fo (.lst [.ref a])) a (ErrO (.ref C) (some dd) a)) dd = some (.xd [("line", .int 0)]) := by rw [upd_ne nda, upd_ne ndf]; exact hdd
      have hT5 : Tabs T (L2.upd (L2.upd (L2.upd H' fo (.lst [.ref a])) a (ErrO (.ref C) (some dd) a)) p (.lst [])) := tabs_upd (tabs_upd (tabs_upd (hT3.ext s4) (.inr ⟨_, hfo4⟩)) (.inl (by rw [upd_ne naf]; exact ha))) (.inl hp)
      have eH5 : ExtN H (L2.upd (L2.upd (L2.upd H' fo (.lst [.ref a])) a (ErrO (.ref C) (some dd) a)) p (.lst [])) := extN_new (extN_new (extN_upd (eH3.trans (ExtN.of s4)) frF) (by rw [upd_ne naf]; exact ha)) hp
      have npa : a ≠ p := ne_of_none haa hp
      have npd : dd ≠ p := ne_of_none hda hp
      have ha5 : (L2.upd (L2.upd (L2.upd H' fo (.lst [.ref a])) a (ErrO (.ref C) (some dd) a)) p (.lst [])) a = some (ErrO (.ref C) (some dd) a) := by rw [upd_ne npa]; exact haa
      have hd5 : (L2.upd (L2.upd (L2.upd H' fo (.lst [.ref a])) a (ErrO (.ref C) (some dd) a)) p (.lst [])) dd = some (.xd [("line", .int 0)]) := by rw [upd_ne npd]; exact hda
      generalize L2.upd (L2.upd (L2.upd H' fo (.lst [.ref a])) a (ErrO (.ref C) (some dd) a)) p (.lst []) = H5 at hT5 eH5 ha5 hd5 ⊢
      refine ⟨_, rfl, rfl, _, rfl, ifF (decide_eq_false fun z => nomatch z) ?_⟩
      refine ⟨_, rfl, a, dd, _, .ref CU, .ref CU, false, rfl, ha5, hd5, fun u hu => hu, kU, false, rfl, iteF ?_⟩
      refine ⟨_, rfl, a, dd, _, .ref CT, .ref CT, false, rfl, ha5, hd5, fun u hu => hu, kT, false, rfl, iteF ?_⟩
      refine ⟨_, rfl, a, dd, _, .ref C, .ref C, true, rfl, ha5, hd5, fun u hu => hu, kN, true, rfl, iteT ?_⟩
      refine ⟨_, rfl, a, dd, _, .int 0, rfl, ha5, hd5, ?_, by show 2 ≤ sizeLine; decide, fun tp htp => ?_⟩
      · simp [List.lookup]
      · exact hq _ tp (extN_new eH5 htp) (tabs_upd hT5 (.inl htp)) upd_same
    · have hto4 := s4 _ _ hto3
      have hfo4 := s4 _ _ hfo3
      refine ⟨to, [], v, rfl, rfl, hto4, by decide, ?_⟩
      have hfo5 : (L2.upd H' to (.lst ([] ++ [v]))) fo = some (.lst []) := by rw [upd_ne (Ne.symm nft)]; exact hfo4
      have hto5 : (L2.upd H' to (.lst ([] ++ [v]))) to = some (.lst [v]) := upd_same
      have t5 : TExt H' (L2.upd H' to (.lst ([] ++ [v]))) := TExt.upd hto4 (fun _ z => nomatch z)
      have e5 : ExtN H (L2.upd H' to (.lst ([] ++ [v]))) := extN_upd (eH3.trans (ExtN.of s4)) frT
      have hT5 : Tabs T (L2.upd H' to (.lst ([] ++ [v]))) := tabs_upd (hT3.ext s4) (.inr ⟨_, hto4⟩)
      generalize L2.upd H' to (.lst ([] ++ [v])) = H5 at hfo5 hto5 t5 e5 hT5 ⊢
      refine ⟨hfo5, fun p hp => ?_⟩
      have npt := ne_of_none hto5 hp
      refine ⟨_, rfl, rfl, _, rfl, iteT ?_⟩
      refine ⟨_, rfl, to, _, _, _, rfl, rfl, SqL.of (by rw [upd_ne npt]; exact hto5), atI_nat (j := 0) (v := v) rfl, ?_⟩
      exact hq _ (t5.trans (TExt.new hp)) (extN_new e5 hp) (tabs_upd hT5 (.inl hp))
end
end K88
namespace K88
open PySem PySem.Spec PyProof.Rows L2 Evl LamX
section
variable {X : Cx} {CX : CXT} {k : Nat} {f : Addr} {fd : FuncData} {sp : Sp} {E : XK} {x a : Str} {p pos kp : Pos} {e : Expr} {te : TE}
/-- f(a=e) -/
theorem pe_kw1 (F : FnOk X.prog X.w X.K X.mg X.base CX k f fd [a] sp) (hr : Room k X.A) (hg : Gl X x) (hm : X.mg x = some (.ref f)) (hk : PySem.W.keepIn X.K (.ref f) = true) (hb : ∀ (s : Shared) (u : Value), BindsTo s fd ⟨[], [(a, u)]⟩ [(a, u)]) (hx : Passes CX X E) (he : PE X e te)
    (hall : (backToKw pos (keywordEach [⟨some a, e, kp⟩] X.env)).all (·.1.isSome) = true := by rfl) (hks : (backToKw pos (keywordEach [⟨some a, e, kp⟩] X.env)).filterMap (·.1) = [a] := by rfl) (hdb : (x == ("__debug__" : Str)) = false := by decide)
    (hpl : ((backTo pos (starEach [] X.env)).any (·.1) || (backToKw pos (keywordEach [⟨some a, e, kp⟩] X.env)).any (·.1.isNone)) = false := by rfl) :
    PE X (.Call (.Name x p) [] [⟨some a, e, kp⟩] pos) (fun σ H Q => te σ H fun v H1 => sp [v] H1 Q E) := by
  refine ⟨fun pins s σ H Q I h => ?_⟩
  refine wpAny_Call_Name_kw (ld_glob I hg hm ?_ hdb)
  refine PySem.W.callWith_KW0 (h₀ := X.base) I.ok.mod.kin hk hall ?_ hpl
  refine thn ((pk_cons (nm := some a) (kpos := kp) he pk_nil).run pos pins s σ H (fun zs H2 => match zs with | [v] => sp [v] H2 Q E | _ => False) I h) fun ws s2 ⟨zs, H2, I2, rz, q2⟩ => ⟨I2.kIn, ?_⟩
  rw [hks]
  cases rz with
  | nil => exact q2.elim
  | cons r1 rr =>
    cases rr with
    | cons _ _ => exact q2.elim
    | nil =>
      rename_i v u _
      refine wpAny_call (codeAny_mono (F.run X.A X.stack s2 H2 ⟨[], [(a, u)]⟩ [u] [v] Q E hr I2.env0 (hb s2 u) (.cons r1 .nil) q2) fun r s' hq => ?_)
      cases r with
      | error e => exact hx pins σ H2 s2 e s' I2 hq
      | ok fl =>
        cases fl with
        | ret u => exact I2.after hq
        | next => exact False.elim hq
        | brk => exact False.elim hq
        | cont => exact False.elim hq
end
end K88
namespace K88
open PySem PySem.Spec PyProof.Rows L2 Evl LamX
theorem scLaw : FnScope ["script", "state", "deepest", "turn", "one", "other", "text", "at", "told", "bent", "thing"] ["script"] (defScope (top 44)) := ⟨rfl, rfl, rfl, by decide +kernel, rfl, by decide +kernel, by decide +kernel⟩
/-- all that the law's walk asks of the top -/
structure LawF (P : Program) (K : PySem.W.Frag) (mg : Str → Option Value) (T : List (Addr × Str)) where
  f1 : Addr
  f2 : Addr
  f3 : Addr
  f4 : Addr
  f5 : Addr
  f6 : Addr
  f7 : Addr
  f8 : Addr
  d1 : FuncData
  d2 : FuncData
  d3 : FuncData
  d4 : FuncData
  d5 : FuncData
  d6 : FuncData
  d7 : FuncData
  d8 : FuncData
  C : Addr
  fI : Addr
  CM : Addr
  CU : Addr
  CT : Addr
  gb : Addr
  gm : Addr
  gd : Addr
  gp : Addr
  gl : Addr
  gi : Addr
  gv : Addr
  gc : Addr
  gw : Addr
  gs : Addr
  gn : Addr
  db : FuncData
  dm : FuncData
  dd : FuncData
  dp : FuncData
  dl : FuncData
  di : FuncData
  dv : FuncData
  dc : FuncData
  dw : FuncData
  ds : FuncData
  dn : FuncData
  cw : Addr
  pw : Addr
  G : Gl8 mg
  D : Defs K mg f1 f2 f3 f4 f5 f6 f7 d1 d2 d3 d4 d5 d6 d7
  rd : DefAt K mg "read_value" 31 f8 d8
  beg : DefAt K mg "_law_begun" 33 gb db
  mix : DefAt K mg "_law_mixed" 34 gm dm
  drw : DefAt K mg "_law_draw" 35 gd dd
  pck : DefAt K mg "_law_pick" 36 gp dp
  pla : DefAt K mg "_law_plain" 37 gl dl
  is_ : DefAt K mg "_law_is" 38 gi di
  ltx : DefAt K mg "_law_value_text" 39 gv dv
  cau : DefAt K mg "_law_caught" 40 gc dc
  wrd : DefAt K mg "_law_word" 41 gw dw
  som : DefAt K mg "_law_some_value" 42 gs ds
  nst : DefAt K mg "_law_nested" 43 gn dn
  EA : ErrAll P K mg "NoText" "line" C fI
  gM : mg "MakeError" = some (.ref CM)
  gU : mg "Used" = some (.ref CU)
  gT : mg "TooMany" = some (.ref CT)
  hM : PySem.W.exmOne K (.ref C) (.ref CM) = some true
  kU : PySem.W.kitOne K (.ref C) (.ref CU) = some false
  kT : PySem.W.kitOne K (.ref C) (.ref CT) = some false
  kN : PySem.W.kitOne K (.ref C) (.ref C) = some true
  hcode : dw.code = .ref cw
  hmT : (pw, ("_law_word.<locals>.<lambda>" : Str)) ∈ T
  hu : ∀ p ∈ T, p.1 = pw → p.2 = ("_law_word.<locals>.<lambda>" : Str)
theorem passE0 {X : Cx} : Passes (L2.CX X.prog X.w) X (fun _ _ _ => False) := fun _ _ _ _ _ _ _ h => by
  obtain ⟨_, _, _, _, _, _, _, _, _, _, _, _, h⟩ := h
  exact h.elim
section
variable {P : Program} {w : World} {K : PySem.W.Frag} {mg : Str → Option Value} {base : Heap} {T : List (Addr × Str)} {f cl pl' : Addr} {fd : FuncData}
/-- _law_word(lambda: body), within the law -/
theorem pe_word {X : Cx} (L : LawF P K mg T) (eP : X.prog = P) (eK : X.K = K) (em : X.mg = mg) (TBw : TabB X.base mg L.cw L.pw) (TBl : TabB X.base mg cl pl') (hcode : X.env.code = .ref cl) (hmT : (pl', X.env.qual ++ "<lambda>") ∈ T) (hu : ∀ p ∈ T, p.1 = pl' → p.2 = X.env.qual ++ "<lambda>")
    {params : Arguments} {body : Expr} {scope : Scope} {t : XK → TE} {p lpos pos : Pos} {k : Nat} (hr : Room (k + 5) X.A) (hg : Gl X "_law_word") (Ls : LamS X.env.scope scope) (hdef : defaultsOf params X.env = ([], []))
    (hbind : ∀ (q : Str) (cl : List (Str × Addr)) (pm cv ctv : Value), bindArgs (PySem.W.kla_fn "<lambda>" q params body scope cl pm cv ctv) ⟨[], []⟩ = pure [])
    (hbody : ∀ (pins : List (Addr × Obj)) (σ : L2.St) (H : Hp) (s : Shared), Inv X pins σ H s → ∀ (A : Around) (outer : List Env) (s1 : Shared) (H1 : Hp) (E : XK) (f c' : Addr), Room k (A.deeper (lamEnv X scope s1.heap.objs.size f c')) → Un (frs X.stack) [] H H1 s.heap s1.heap → (∀ x ∈ frs outer, x ∈ frs X.stack ∨ s.heap.objs.size ≤ x) → PE (lamCx X A outer s1 H1 E scope f c') body (t E)) :
    PE X (.Call (.Name "_law_word" p) [.Lambda params body scope lpos] [] pos) (fun σ H Q => Tabs T H ∧ ∀ H1 c', ExtN H H1 → Tabs T H1 → H1 c' = some (CodeO c' (X.env.qual ++ "<lambda>")) → Mono (fun E H' Q' => t E σ H' Q') ∧ TTw T L.C (fun E H' Q' => t E σ H' Q') H1 Q ∧ Tabs T H1) := by
  subst eP eK em
  exact pe_lamcallG (T := T) (TT := fun c2 tl2 E H Q => Mono tl2 ∧ TTw T L.C tl2 H Q ∧ Tabs T H) (CXx := CX0) (E := fun _ _ _ => False) (k := k) (t := t) hg L.wrd.g L.wrd.fn.kp
    (fun f2 c2 s2 H2 Q2 tl2 AO2 e2 hc2 ht => run_word ht.1 L.G L.wrd.fn L.cau L.EA L.gM L.gU L.gT L.hM L.kU L.kT L.kN L.hcode TBw L.hmT L.hu (hr.mono (by omega)) e2 AO2 hc2 ht.2.2 ht.2.1) pass0 TBl hcode hmT hu Ls hdef hbind hbody
end
end K88
/-! Read of its own text. -/
namespace K88
open PySem PySem.Spec PyProof.Rows L2 Evl
def plainC (l : List Nat) : Prop := l ≠ [] ∧ ∀ c ∈ l, spec c = false
theorem sp_word : ∀ (l acc r : List Nat), (∀ c ∈ l, spec c = false) → sp acc (l ++ r) = sp (acc ++ l) r
  | [], acc, r, _ => by simp
  | c :: l, acc, r, h => by
    rw [List.cons_append, sp_plain (h c (by simp)), sp_word l (acc ++ [c]) r fun x hx => h x (by simp [hx])]
    simp
theorem sp_piece {l r : List Nat} (h : plainC l) (hr : ∀ c, r.head? = some c → spec c = true) : sp [] (l ++ r) = l :: sp [] r := by
  rw [sp_word l [] r h.2, List.nil_append, sp_flush h.1 hr]
/-- the text of a number -/
theorem num_tl (i : Int) : (Str.ofString (toString i)).cps.toList = (if i < 0 then 45 :: TL.numL i.natAbs else TL.numL i.natAbs) := by
  cases i with
  | ofNat n =>
    have := TL.tl_num n
    rw [if_neg (show ¬ (Int.ofNat n < 0) from Int.not_lt.mpr (Int.natCast_nonneg n))]
    exact this
  | negSucc n =>
    rw [if_pos (show Int.negSucc n < 0 from Int.negSucc_lt_zero n)]
    have h1 : toString (Int.negSucc n) = "-" ++ toString ((n + 1 : Nat) : Int) := rfl
    rw [h1]
    have h2 := TL.tl_ofString ("-" ++ toString ((n + 1 : Nat) : Int))
    have h3 := TL.tl_ofString (toString ((n + 1 : Nat) : Int))
    have h4 := TL.tl_num (n + 1)
    rw [h3] at h4
    refine h2.trans ?_
    rw [String.toList_append, List.map_append, h4]
    rfl
theorem digit_spec {c : Nat} (h : 48 ≤ c ∧ c ≤ 57) : spec c = false := decide_eq_false (by simp; omega)
theorem small_mem {c : Nat} (h : c ∈ smallS.cps.toList) : 97 ≤ c ∧ c ≤ 122 := by
  have e : ∀ c ∈ smallS.cps.toList, 97 ≤ c ∧ c ≤ 122 := by decide
  exact e c h
theorem num_plain (i : Int) : plainC (Str.ofString (toString i)).cps.toList := by
  rw [num_tl]
  split
  · refine ⟨by simp, fun c hc => ?_⟩
    rcases List.mem_cons.mp hc with e | e
    · rw [e]; decide
    · exact digit_spec (TL.numL_digits _ c e)
  · exact ⟨TL.numL_ne _, fun c hc => digit_spec (TL.numL_digits _ c hc)⟩
theorem word_plain {s : Str} (h : wordS s = true) : plainC s.cps.toList := by
  obtain ⟨h1, h2⟩ := Bool.and_eq_true_iff.mp h
  refine ⟨fun z => ?_, fun c hc => ?_⟩
  · have : s.cps.size = 0 := by
      have := congrArg List.length z
      simpa using this
    rw [this] at h1
    cases h1
  · have := small_mem (of_decide_eq_true (List.all_eq_true.mp h2 c hc))
    exact decide_eq_false (by simp; omega)
theorem leaf_plain {d : PyData} {n : Nat} (h : val d n = true) (ht : tyD d ≠ "tuple") : plainC (leafT d).cps.toList := by
  cases d with
  | none => exact ⟨by decide, by decide⟩
  | int i => exact num_plain i
  | str s => exact word_plain h
  | tuple ds => exact absurd rfl ht
  | bool b => cases h
  | list ds => cases h
  | dict ds => cases h
theorem word_not {s : Str} (h : ∃ c ∈ s.cps.toList, c < 97) : wordS s = false := by
  cases hw : wordS s with
  | false => rfl
  | true =>
    obtain ⟨c, hc, hl⟩ := h
    obtain ⟨h1, h2⟩ := Bool.and_eq_true_iff.mp hw
    have := small_mem (of_decide_eq_true (List.all_eq_true.mp h2 c hc))
    omega
theorem leaf_back {d : PyData} {n : Nat} (h : val d n = true) (ht : tyD d ≠ "tuple") : plainD (leafT d) = [d] := by
  cases d with
  | none =>
    unfold plainD
    rw [if_pos (show leafT .none = ("-" : Str) from rfl)]
  | str s =>
    have hw : wordS s = true := h
    have n1 : s ≠ ("-" : Str) := fun z => by
      rw [z] at hw
      exact absurd hw (by decide)
    unfold plainD
    show (if s = ("-" : Str) then _ else if wordS s = true then [PyData.str s] else _) = _
    rw [if_neg n1, if_pos hw]
  | int i =>
    have hf : figI i = true := h
    have e := num_tl i
    have ha : i.natAbs < 10 ^ 12 := by
      have h1 := of_decide_eq_true hf
      split at h1 <;> omega
    have ln := TL.numL_len (n := i.natAbs) (k := 12) (by decide) ha
    have dn := TL.numL_digits i.natAbs
    have nn := TL.numL_ne i.natAbs
    obtain ⟨c0, r0, e0⟩ : ∃ c r, TL.numL i.natAbs = c :: r := by
      cases q : TL.numL i.natAbs with
      | nil => exact absurd q nn
      | cons c r => exact ⟨c, r, rfl⟩
    have c0d : 48 ≤ c0 ∧ c0 ≤ 57 := dn c0 (by rw [e0]; simp)
    have bare : bareOf (Str.ofString (toString i)).cps.toList = TL.numL i.natAbs := by
      rw [e]
      unfold bareOf
      split
      · simp
      · rw [e0]
        rw [if_neg (by simp; omega)]
    have numo : numOf (Str.ofString (toString i)).cps.toList = i := by
      rw [e]
      unfold numOf
      split
      · rename_i hi
        simp only [List.take_succ_cons, List.take_zero, if_true, List.drop_succ_cons, List.drop_zero]
        rw [TL.numL_val]
        omega
      · rename_i hi
        rw [if_neg (by rw [e0]; simp; omega), TL.numL_val]
        omega
    have okn : okNum (Str.ofString (toString i)).cps.toList = true := by
      unfold okNum
      rw [bare, decide_eq_true ln, decide_eq_true (show 1 ≤ (TL.numL i.natAbs).length by rw [e0]; simp)]
      show digs _ = true
      exact List.all_eq_true.mpr fun c hc => decide_eq_true (figs_mem.mpr (dn c hc))
    have n1 : Str.ofString (toString i) ≠ ("-" : Str) := fun z => by
      have z2 := congrArg (fun s : Str => s.cps.toList) z
      have z3 : (Str.ofString (toString i)).cps.toList = [45] := z2.trans (by decide)
      rw [z3] at okn
      exact absurd okn (by decide)
    have nw : wordS (Str.ofString (toString i)) = false := by
      refine word_not ?_
      rw [e]
      split
      · exact ⟨45, by simp, by decide⟩
      · exact ⟨c0, by rw [e0]; simp, by omega⟩
    unfold plainD
    show (if Str.ofString (toString i) = ("-" : Str) then _ else if wordS (Str.ofString (toString i)) = true then _ else if okNum (Str.ofString (toString i)).cps.toList = true then (if Str.ofString (toString (numOf (Str.ofString (toString i)).cps.toList)) = Str.ofString (toString i) then [PyData.int (numOf (Str.ofString (toString i)).cps.toList)] else []) else []) = _
    rw [if_neg n1, if_neg (by rw [nw]; simp), if_pos okn, numo, if_pos rfl]
  | tuple ds => exact absurd rfl ht
  | bool b => cases h
  | list ds => cases h
  | dict ds => cases h
theorem pcs_leaf {d : PyData} {n : Nat} (h : val d n = true) (ht : tyD d ≠ "tuple") : pcs d = [leafT d] := by
  cases d with
  | none => rfl
  | int i => rfl
  | str s => rfl
  | tuple ds => exact absurd rfl ht
  | bool b => cases h
  | list ds => cases h
  | dict ds => cases h
def tlm (l : List Str) : List (List Nat) := l.map fun s => s.cps.toList
mutual
theorem sp_pcs : ∀ (d : PyData) (n : Nat) (r : List Nat), val d n = true → (∀ c, r.head? = some c → spec c = true) → sp [] (tls (pcs d) ++ r) = tlm (pcs d) ++ sp [] r
  | .tuple ds, 0, r, h, _ => by cases h
  | .tuple ds, n + 1, r, h, hr => by
    show sp [] (tls ("(" :: (pcs.pcsL ds ++ [(")" : Str)])) ++ r) = tlm ("(" :: (pcs.pcsL ds ++ [(")" : Str)])) ++ sp [] r
    have e1 : tls ("(" :: (pcs.pcsL ds ++ [(")" : Str)])) ++ r = 40 :: (tls (pcs.pcsL ds) ++ (41 :: r)) := by
      rw [tls_cons, tls_app, tls_cons]
      have h3 : ("(" : Str).cps.toList = [40] := by decide
      have h4 : (")" : Str).cps.toList = [41] := by decide
      rw [h3, h4]
      simp [tls]
    rw [e1, sp_spec (by decide), sp_pcsL ds n (41 :: r) h (fun c hc => by simp at hc; rw [← hc]; decide), sp_spec (by decide)]
    simp [tlm]
    exact ⟨by decide, by decide⟩
  | .none, n, r, h, hr => by
    have := sp_piece (leaf_plain (d := .none) h (by simp [tyD])) hr
    show sp [] (tls [leafT .none] ++ r) = tlm [leafT .none] ++ sp [] r
    simpa [tls, tlm] using this
  | .int i, n, r, h, hr => by
    have := sp_piece (leaf_plain (d := .int i) h (by simp [tyD])) hr
    show sp [] (tls [leafT (.int i)] ++ r) = tlm [leafT (.int i)] ++ sp [] r
    simpa [tls, tlm] using this
  | .str s, n, r, h, hr => by
    have := sp_piece (leaf_plain (d := .str s) h (by simp [tyD])) hr
    show sp [] (tls [leafT (.str s)] ++ r) = tlm [leafT (.str s)] ++ sp [] r
    simpa [tls, tlm] using this
  | .bool _, _, _, h, _ => by cases h
  | .list _, _, _, h, _ => by cases h
  | .dict _, _, _, h, _ => by cases h
theorem sp_pcsL : ∀ (ds : List PyData) (n : Nat) (r : List Nat), val.vals ds n = true → (∀ c, r.head? = some c → spec c = true) → sp [] (tls (pcs.pcsL ds) ++ r) = tlm (pcs.pcsL ds) ++ sp [] r
  | [], n, r, _, _ => rfl
  | d :: ds, n, r, h, hr => by
    obtain ⟨h1, h2⟩ := Bool.and_eq_true_iff.mp (show (val d n && val.vals ds n) = true from h)
    cases ds with
    | nil =>
      have := sp_pcs d n r h1 hr
      show sp [] (tls (pcs d ++ []) ++ r) = tlm (pcs d ++ []) ++ sp [] r
      rw [List.append_nil]
      exact this
    | cons e es =>
      have i2 := sp_pcsL (e :: es) n r h2 hr
      have i1 := sp_pcs d n (32 :: (tls (pcs.pcsL (e :: es)) ++ r)) h1 (fun c hc => by simp at hc; rw [← hc]; decide)
      show sp [] (tls (pcs d ++ ((" " : Str) :: pcs.pcsL (e :: es))) ++ r) = tlm (pcs d ++ ((" " : Str) :: pcs.pcsL (e :: es))) ++ sp [] r
      have e1 : tls (pcs d ++ ((" " : Str) :: pcs.pcsL (e :: es))) ++ r = tls (pcs d) ++ (32 :: (tls (pcs.pcsL (e :: es)) ++ r)) := by
        rw [tls_app, tls_cons]
        have h3 : (" " : Str).cps.toList = [32] := by decide
        rw [h3]
        simp
      rw [e1, i1, sp_spec (by decide), i2]
      simp [tlm]
      decide
end
theorem pieces_text {d : PyData} {n : Nat} (h : val d n = true) : piecesS (textD d) = pcs d := by
  have := sp_pcs d n [] h (fun c hc => by simp at hc)
  rw [List.append_nil] at this
  unfold piecesS
  rw [textD_eq]
  show (sp [] (tls (pcs d))).map SX = pcs d
  rw [this]
  simp [sp, tlm]
  rw [show ((pcs d).map (SX ∘ fun s : Str => s.cps.toList)) = pcs d from by
    conv => rhs; rw [map_S (pcs d)]
    rw [List.map_map]]
theorem vf_leaf {d : PyData} {n : Nat} {st : List (List PyData)} {done : List PyData} {ps : List Str} (h : val d n = true) (ht : tyD d ≠ "tuple") : vfold st done (pcs d ++ ps) = (match putD st done d with | none => none | some x => vfold x.1 x.2 ps) := by
  have hp := leaf_plain h ht
  have hb := leaf_back h ht
  rw [pcs_leaf h ht]
  show (match stp st done (leafT d) with | none => none | some x => vfold x.1 x.2 ps) = _
  have key : ∀ z : Str, (∃ c ∈ z.cps.toList, spec c = true) → leafT d ≠ z := fun z ⟨c, hc, hs⟩ e => by
    rw [← e] at hc
    rw [hp.2 c hc] at hs
    cases hs
  have : stp st done (leafT d) = putD st done d := by
    unfold stp
    rw [if_neg (key _ ⟨40, by decide, by decide⟩), if_neg (key _ ⟨32, by decide, by decide⟩), if_neg (key _ ⟨41, by decide, by decide⟩), hb]
  rw [this]
mutual
theorem vf_pcs : ∀ (d : PyData) (n : Nat) (st : List (List PyData)) (done : List PyData) (ps : List Str), val d n = true → vfold st done (pcs d ++ ps) = (match putD st done d with | none => none | some x => vfold x.1 x.2 ps)
  | .tuple ds, 0, _, _, _, h => by cases h
  | .tuple ds, n + 1, st, done, ps, h => by
    have ih := vf_pcsL ds n [] st done ((")" : Str) :: ps) h
    show vfold st done (("(" : Str) :: ((pcs.pcsL ds ++ [(")" : Str)]) ++ ps)) = _
    have s1 : stp st done ("(" : Str) = some ([] :: st, done) := by unfold stp; rw [if_pos rfl]
    have s2 : stp (ds :: st) done (")" : Str) = putD st done (.tuple ds) := by
      unfold stp
      rw [if_neg (by decide), if_neg (by decide), if_pos rfl]
    show (match stp st done ("(" : Str) with | none => none | some x => vfold x.1 x.2 ((pcs.pcsL ds ++ [(")" : Str)]) ++ ps)) = _
    rw [s1]
    show vfold ([] :: st) done ((pcs.pcsL ds ++ [(")" : Str)]) ++ ps) = _
    rw [List.append_assoc]
    refine ih.trans ?_
    show (match stp (([] ++ ds) :: st) done (")" : Str) with | none => none | some x => vfold x.1 x.2 ps) = _
    rw [List.nil_append, s2]
  | .none, n, st, done, ps, h => vf_leaf h (by simp [tyD])
  | .int i, n, st, done, ps, h => vf_leaf h (by simp [tyD])
  | .str s, n, st, done, ps, h => vf_leaf h (by simp [tyD])
  | .bool _, _, _, _, _, h => by cases h
  | .list _, _, _, _, _, h => by cases h
  | .dict _, _, _, _, _, h => by cases h
theorem vf_pcsL : ∀ (ds : List PyData) (n : Nat) (t : List PyData) (st : List (List PyData)) (done : List PyData) (ps : List Str), val.vals ds n = true → vfold (t :: st) done (pcs.pcsL ds ++ ps) = vfold ((t ++ ds) :: st) done ps
  | [], n, t, st, done, ps, _ => by simp [pcs.pcsL]
  | d :: ds, n, t, st, done, ps, h => by
    obtain ⟨h1, h2⟩ := Bool.and_eq_true_iff.mp (show (val d n && val.vals ds n) = true from h)
    cases ds with
    | nil =>
      have := vf_pcs d n (t :: st) done ps h1
      show vfold (t :: st) done ((pcs d ++ []) ++ ps) = _
      rw [List.append_nil]
      exact this
    | cons e es =>
      have i1 := vf_pcs d n (t :: st) done ((" " : Str) :: (pcs.pcsL (e :: es) ++ ps)) h1
      have i2 := vf_pcsL (e :: es) n (t ++ [d]) st done ps h2
      show vfold (t :: st) done ((pcs d ++ ((" " : Str) :: pcs.pcsL (e :: es))) ++ ps) = _
      rw [List.append_assoc]
      refine i1.trans ?_
      show (match stp ((t ++ [d]) :: st) done (" " : Str) with | none => none | some x => vfold x.1 x.2 (pcs.pcsL (e :: es) ++ ps)) = _
      have s2 : stp ((t ++ [d]) :: st) done (" " : Str) = some ((t ++ [d]) :: st, done) := by
        unfold stp
        rw [if_neg (by decide), if_pos rfl]
      rw [s2]
      refine i2.trans ?_
      simp
end
theorem roundtrip {d : PyData} (h : val d 59 = true) : readV (textD d) = some d := by
  have e1 : valueOf (pcs d) = [d] := by
    unfold valueOf
    have := vf_pcs d 59 [] [] [] h
    rw [List.append_nil] at this
    rw [this] <;> rfl
  unfold readV
  rw [pieces_text h, e1]
  simp [h]
end K88
/-! The law's constants. -/
namespace K88
open PySem PySem.Spec PyProof.Rows L2 Evl
def badD : List PyData := [.str "A", .str "", .str "a b", .str "a1", .str "-", .int 1000000000000, .int (-1000000000000), .bool true, .list [.str "a"], .tuple [.str "a", .list [.str "b"]], .tuple [.str "a", .str "B"], nest 60 (.str "a"), .tuple [.str "a", .bool true]]
theorem bad_val : ∀ d ∈ badD, val d 59 = false ∧ wt d ≤ most := by decide +kernel
def badT : List Str := ["", " ", "A", "a b", "01", "-0", "--1", "+1", "1000000000000", "(", ")", "(a", "a)", "(a))", "( a)", "(a )", "(a  b)", "()()", "(a)(b)", "a()", "1a", "a1", "- 1", "(-)-", "(a\nb)", "1/2"]
theorem bad_text : ∀ s ∈ badT, readV s = none ∧ s.length ≤ 1000 := by decide +kernel
def par (n : Nat) : Str := Txt.mul "(" n ++ "a" ++ Txt.mul ")" n
theorem par60 : readV (par 60) = none := by decide +kernel
theorem par59 : textD (nest 59 (.str "a")) = par 59 := by decide +kernel
theorem val59 : val (nest 59 (.str "a")) 59 = true := by decide +kernel
theorem wt59 : wt (nest 59 (.str "a")) ≤ 1000 := by decide +kernel
theorem len60 : (par 60).length ≤ 1000 ∧ (par 59).length ≤ 1000 := by decide +kernel
theorem len1 : (Txt.mul "(" 60).length = 60 ∧ (Txt.mul "(" 59).length = 59 ∧ (Txt.mul ")" 60).length = 60 ∧ (Txt.mul ")" 59).length = 59 := by decide +kernel
theorem asc59 : ∀ c ∈ (par 59).cps.toList, c < 128 := by decide +kernel
end K88
/-! Helpers of the law's reading. -/
namespace K88
open PySem PySem.Spec PyProof.Rows L2 Evl LamX
theorem Dv.extN {H H' : Hp} (e : ExtN H H') {v : V} {d : PyData} (h : Dv H v d) : Dv H' v d := by
  induction h with
  | non => exact .non
  | bl b => exact .bl b
  | int i => exact .int i
  | str x => exact .str x
  | lst h hl hd ih => exact .lst (e _ _ h (fun _ z => nomatch z)) hl ih
  | tup h hl hd ih => exact .tup (e _ _ h (fun _ z => nomatch z)) hl ih
theorem DvL.extN {H H' : Hp} {xs : List V} {ds : List PyData} (e : ExtN H H') (a : DvL H xs ds) : DvL H' xs ds := ⟨a.1, fun i x d h1 h2 => (a.2 i x d h1 h2).extN e⟩
theorem StOk.extN {H H' : Hp} {sa g c : Addr} {b : Nat} (S : StOk H sa g c b) (e : ExtN H H') : StOk H' sa g c b := by
  obtain ⟨⟨r, t, h1, h2, h3, h4⟩, ⟨ns, g1, g2⟩, ⟨ms, c1, c2⟩, n1, n2, n3⟩ := S
  exact ⟨⟨r, t, e _ _ h1 (fun _ z => nomatch z), h2, h3, h4⟩, ⟨ns, e _ _ g1 (fun _ z => nomatch z), g2⟩, ⟨ms, e _ _ c1 (fun _ z => nomatch z), c2⟩, n1, n2, n3⟩
theorem sq_extN {K : PySem.W.Frag} {H H' : Hp} {a : Addr} {xs : List V} (e : ExtN H H') (h : SqL K H a xs) : SqL K H' a xs := by
  rcases h with (h | ⟨o, h⟩) | h
  · exact .inl (.inl (e _ _ h (fun _ z => nomatch z)))
  · exact .inl (.inr ⟨o, e _ _ h (fun _ z => nomatch z)⟩)
  · exact .inr h
theorem Kp.tabs {T : List (Addr × Str)} {H H' : Hp} {sa g c : Addr} {b : Nat} (S : StOk H sa g c b) (k : Kp sa g H H') (t : Tabs T H) : Tabs T H' := fun p hp => by
  obtain ⟨⟨r, u, h1, _⟩, ⟨ns, g1, _⟩, _⟩ := S
  obtain ⟨ps, e1, e2, e3⟩ := t p hp
  refine ⟨ps, k p.1 _ (fun z => ?_) (fun z => ?_) e1, e2, fun pos cv hc => ?_⟩
  · rw [z, h1] at e1; cases e1
  · rw [z, g1] at e1; cases e1
  · obtain ⟨x, q1, q2⟩ := e3 pos cv hc
    refine ⟨x, q1, k x _ (fun z => ?_) (fun z => ?_) q2⟩
    · rw [z, h1] at q2; cases q2
    · rw [z, g1] at q2; cases q2
theorem mono_text {C : Addr} {vs : List V} {H : Hp} {Q1 Q2 : VK} {E1 E2 : XK} (hE : ∀ cls d H', E1 cls d H' → E2 cls d H') (hQ : ∀ v H', Q1 v H' → Q2 v H') (h : spText C vs H Q1 E1) : spText C vs H Q2 E2 := by
  obtain ⟨v, d, e, dv, w, q, x⟩ := h
  exact ⟨v, d, e, dv, w, fun hv H' s => hQ _ _ (q hv H' s), fun hv H' dd s hd => hE _ _ _ (x hv H' dd s hd)⟩
theorem mono_read {C : Addr} {vs : List V} {H : Hp} {Q1 Q2 : VK} {E1 E2 : XK} (hE : ∀ cls d H', E1 cls d H' → E2 cls d H') (hQ : ∀ v H', Q1 v H' → Q2 v H') (h : spRead C vs H Q1 E1) : spRead C vs H Q2 E2 := by
  obtain ⟨x, e, h⟩ := h
  refine ⟨x, e, ?_⟩
  rcases h with ⟨s, h1, h2, h3, h4⟩ | ⟨h1, h2⟩
  · exact .inl ⟨s, h1, h2, fun d hd H' v sm dv => hQ _ _ (h3 d hd H' v sm dv), fun hn H' dd sm hd => hE _ _ _ (h4 hn H' dd sm hd)⟩
  · exact .inr ⟨h1, fun H' dd sm hd => hE _ _ _ (h2 H' dd sm hd)⟩
mutual
theorem val_mono : ∀ (d : PyData) (n m : Nat), n ≤ m → val d n = true → val d m = true
  | .none, _, _, _, _ => rfl
  | .int _, _, _, _, h => h
  | .str _, _, _, _, h => h
  | .bool _, _, _, _, h => by cases h
  | .list _, _, _, _, h => by cases h
  | .dict _, _, _, _, h => by cases h
  | .tuple ds, 0, m, _, h => by cases h
  | .tuple ds, n + 1, 0, hl, h => by omega
  | .tuple ds, n + 1, m + 1, hl, h => vals_mono ds n m (by omega) h
theorem vals_mono : ∀ (ds : List PyData) (n m : Nat), n ≤ m → val.vals ds n = true → val.vals ds m = true
  | [], _, _, _, _ => rfl
  | d :: ds, n, m, hl, h => by
    obtain ⟨h1, h2⟩ := Bool.and_eq_true_iff.mp (show (val d n && val.vals ds n) = true from h)
    show (val d m && val.vals ds m) = true
    rw [val_mono d n m hl h1, vals_mono ds n m hl h2] <;> rfl
end
theorem same_text {d e : PyData} (h1 : val d 59 = true) (h2 : val e 59 = true) : decide (V.str (textD d) = V.str (textD e)) = PyData.eqv d e := by
  by_cases hde : d = e
  · subst hde
    rw [decide_eq_true rfl]
    exact (SeqAt.eqv_refl d (val_lay d 59 h1).1).symm
  · have n1 : PyData.eqv d e = false := by
      cases q : PyData.eqv d e with
      | false => rfl
      | true => exact absurd (eqv_val d e 59 59 h1 h2 q) hde
    rw [n1]
    refine decide_eq_false fun q => hde ?_
    injection q with q
    have r1 := roundtrip h1
    rw [q, roundtrip h2] at r1
    exact (Option.some.inj r1).symm
theorem readV_some {s : Str} {d : PyData} (h : readV s = some d) : val d 59 = true ∧ textD d = s ∧ wt d ≤ 17 * s.length := by
  unfold readV at h
  cases hv : valueOf (piecesS s) with
  | nil => rw [hv] at h; cases h
  | cons x r =>
    rw [hv] at h
    have h : (if val x 59 = true then (if textD x = s then some x else none) else none) = some d := h
    split at h
    · rename_i h1
      split at h
      · rename_i h2
        cases h
        have := valueOf_some hv
        rw [lens_pieces] at this
        have := len_pieces s
        exact ⟨h1, h2, by omega⟩
      · cases h
    · cases h
mutual
theorem asc_pcs : ∀ (d : PyData) (n : Nat), val d n = true → ∀ c ∈ tls (pcs d), c < 128
  | .tuple ds, 0, h => by cases h
  | .tuple ds, n + 1, h => fun c hc => by
    have hc : c ∈ tls ("(" :: (pcs.pcsL ds ++ [(")" : Str)])) := hc
    rw [tls_cons, tls_app, tls_cons] at hc
    rcases List.mem_append.mp hc with z | z
    · exact (show ∀ c ∈ ("(" : Str).cps.toList, c < 128 by decide) c z
    · rcases List.mem_append.mp z with z | z
      · exact asc_pcsL ds n h c z
      · rcases List.mem_append.mp z with z | z
        · exact (show ∀ c ∈ (")" : Str).cps.toList, c < 128 by decide) c z
        · simp [tls] at z
  | .none, _, _ => by decide
  | .int i, _, h => fun c hc => by
    have hc : c ∈ (Str.ofString (toString i)).cps.toList ++ [] := hc
    rw [List.append_nil, num_tl] at hc
    split at hc
    · rcases List.mem_cons.mp hc with e | e
      · omega
      · have := TL.numL_digits _ c e; omega
    · have := TL.numL_digits _ c hc; omega
  | .str s, _, h => fun c hc => by
    have hc : c ∈ s.cps.toList ++ [] := hc
    rw [List.append_nil] at hc
    exact wordS_asc h c hc
  | .bool _, _, h => by cases h
  | .list _, _, h => by cases h
  | .dict _, _, h => by cases h
theorem asc_pcsL : ∀ (ds : List PyData) (n : Nat), val.vals ds n = true → ∀ c ∈ tls (pcs.pcsL ds), c < 128
  | [], _, _ => fun c hc => by simp [pcs.pcsL, tls] at hc
  | d :: ds, n, h => fun c hc => by
    obtain ⟨h1, h2⟩ := Bool.and_eq_true_iff.mp (show (val d n && val.vals ds n) = true from h)
    cases ds with
    | nil =>
      have hc : c ∈ tls (pcs d ++ []) := hc
      rw [List.append_nil] at hc
      exact asc_pcs d n h1 c hc
    | cons e es =>
      have hc : c ∈ tls (pcs d ++ ((" " : Str) :: pcs.pcsL (e :: es))) := hc
      rw [tls_app, tls_cons] at hc
      rcases List.mem_append.mp hc with z | z
      · exact asc_pcs d n h1 c z
      · rcases List.mem_append.mp z with z | z
        · exact (show ∀ c ∈ (" " : Str).cps.toList, c < 128 by decide) c z
        · exact asc_pcsL (e :: es) n h2 c z
end
theorem text_asc {d : PyData} {n : Nat} (h : val d n = true) : ∀ c ∈ (textD d).cps.toList, c < 128 := by
  rw [textD_eq]
  exact asc_pcs d n h
theorem dv_lst1 {H : Hp} {l : Addr} {x : V} {d : PyData} (h : H l = some (.lst [x])) (hx : Dv H x d) : Dv H (.ref l) (.list [d]) := .lst h (DvL.one hx).1 (DvL.one hx).2
theorem dv_tup2 {H : Hp} {l : Addr} {x y : V} {d e : PyData} (h : H l = some (.tup [x, y])) (hx : Dv H x d) (hy : Dv H y e) : Dv H (.ref l) (.tuple [d, e]) := by
  have z : DvL H [x, y] [d, e] := (DvL.one hx).app (DvL.one hy)
  exact .tup h z.1 z.2
theorem b59 : (Txt.mul "(" (59 : Int)).length + ("a" : Str).length ≤ sizeLine := by decide +kernel
theorem c59 : (Txt.mul "(" (59 : Int) ++ ("a" : Str)).length + (Txt.mul ")" (59 : Int)).length ≤ sizeLine := by decide +kernel
theorem b60 : (Txt.mul "(" (60 : Int)).length + ("a" : Str).length ≤ sizeLine := by decide +kernel
theorem c60 : (Txt.mul "(" (60 : Int) ++ ("a" : Str)).length + (Txt.mul ")" (60 : Int)).length ≤ sizeLine := by decide +kernel
/-- ('text', 0) -/
def tx0 : PyData := .tuple [.str "text", .int 0]
theorem tx0_shaped : SeqAt.shaped tx0 = true := by decide +kernel
theorem tx0_dv {H : Hp} {tp : Addr} (h : H tp = some (.tup [.str "text", .int 0])) : Dv H (.ref tp) tx0 := by
  have q : DvL H [V.str "text", .int 0] [.str "text", .int 0] := (DvL.one (.str "text")).app (DvL.one (.int 0))
  exact .tup h q.1 q.2
end K88
namespace K88
open PySem PySem.Spec PyProof.Rows L2 Evl LamX
def spLaw (K : PySem.W.Frag) (T : List (Addr × Str)) : Sp := fun vs H Q E => ∃ (a : Addr) (ns : List Int), vs = [.ref a] ∧ SqL K H a (ns.map V.int) ∧ ns.length ≤ 63 ∧ Tabs T H ∧ ∀ H', Q (.bl true) H'
section
variable {P : Program} {w : World} {K : PySem.W.Frag} {mg : Str → Option Value} {base : Heap} {T : List (Addr × Str)} {f cl pl' : Addr} {fd : FuncData}
theorem ok_law (L : LawF P K mg T) (F : FnP K "law" 44 f fd) (TBw : TabB base mg L.cw L.pw) (TBl : TabB base mg cl pl') (hcl : fd.code = .ref cl) (hmT : (pl', ("law.<locals>.<lambda>" : Str)) ∈ T) (hu : ∀ p ∈ T, p.1 = pl' → p.2 = ("law.<locals>.<lambda>" : Str)) : FnG P w K mg base CX0 64 f fd ["script"] (spLaw K T) := by
  have GT : FnOk P w K mg base (L2.CX P w) 3 L.f4 L.d4 ["value"] (spText L.C) := ok_text L.G L.EA.t L.D.text.fn L.D.word L.D.fig L.D.val
  have GR : FnOk P w K mg base (L2.CX P w) 4 L.f8 L.d8 ["text"] (spRead L.C) := ok_read L.G L.EA.t L.D L.rd.fn
  have GN : FnOk P w K mg base CX0 1 L.gn L.dn ["many", "one"] spNest := ok_nest L.G L.nst.fn
  have GB : FnOk P w K mg base CX0 1 L.gb L.db ["script"] (spBeg K) := ok_beg L.G L.beg.fn
  have GI : FnG P w K mg base CX0 63 L.gi L.di ["found", "due"] spIs := ok_is L.G L.is_.fn L.pla
  have GS : FnOk P w K mg base CX0 7 L.gs L.ds ["state", "deep"] (spSom 4) := ok_some L.G L.som L.mix L.drw L.pck 4
  have GV : FnOk P w K mg base CX0 60 L.gv L.dv ["value"] (spLtx 60) := ok_ltx L.G L.ltx 60
  have GL : FnOk P w K mg base CX0 62 L.gl L.dl ["value"] (spPla 62) := ok_plain L.G L.pla 62
  have GD : FnOk P w K mg base CX0 2 L.gd L.dd ["state", "room"] spDraw := ok_draw L.G L.drw.fn L.mix
  have GP : FnOk P w K mg base CX0 3 L.gp L.dp ["state", "some"] spPick := ok_pick L.G L.pck.fn L.mix L.drw
  have bT : Binds K L.d4 ["value"] [] := bind1 L.D.text.fn fun _ _ _ _ _ _ _ => rfl
  have bR : Binds K L.d8 ["text"] [] := bind1 L.rd.fn fun _ _ _ _ _ _ _ => rfl
  have bB : Binds K L.db ["script"] [] := bind1 L.beg.fn fun _ _ _ _ _ _ _ => rfl
  have bV : Binds K L.dv ["value"] [] := bind1 L.ltx.fn fun _ _ _ _ _ _ _ => rfl
  have bL : Binds K L.dl ["value"] [] := bind1 L.pla.fn fun _ _ _ _ _ _ _ => rfl
  have bN : Binds K L.dn ["many", "one"] [] := L.nst.fn.bindsN fun _ _ _ _ _ _ us hl => match us, hl with | [_, _], _ => rfl
  have bI : Binds K L.di ["found", "due"] [] := L.is_.fn.bindsN fun _ _ _ _ _ _ us hl => match us, hl with | [_, _], _ => rfl
  have bS : Binds K L.ds ["state", "deep"] [] := L.som.fn.bindsN fun _ _ _ _ _ _ us hl => match us, hl with | [_, _], _ => rfl
  have bD : Binds K L.dd ["state", "room"] [] := L.drw.fn.bindsN fun _ _ _ _ _ _ us hl => match us, hl with | [_, _], _ => rfl
  have bP : Binds K L.dp ["state", "some"] [] := L.pck.fn.bindsN fun _ _ _ _ _ _ us hl => match us, hl with | [_, _], _ => rfl
  have kR : ∀ (s : Shared) (u : Value), BindsTo s L.d8 ⟨[], [("text", u)]⟩ [("text", u)] := fun s u => by
    obtain ⟨oc, od, dV, kV, doc, pm, an, cdv, ct, osl, e, lk, hcd, hD, hK⟩ := L.rd.fn.ex
    rw [e]
    rcases hD with ⟨_, rfl⟩ | ⟨z, _⟩
    · exact .of_eq rfl
    · exact absurd rfl z
  have kT : ∀ (s : Shared) (u : Value), BindsTo s L.d4 ⟨[], [("value", u)]⟩ [("value", u)] := fun s u => by
    obtain ⟨oc, od, dV, kV, doc, pm, an, cdv, ct, osl, e, lk, hcd, hD, hK⟩ := L.D.text.fn.ex
    rw [e]
    rcases hD with ⟨_, rfl⟩ | ⟨z, _⟩
    · exact .of_eq rfl
    · exact absurd rfl z
  refine FunD.okG F scLaw (fun vs H Q E h => ?_) (fun cdv A outer s H vs Q E hr hg hcd ecd h => ?_)
  · obtain ⟨_, _, rfl, _⟩ := h
    rfl
  have ec : cdv = .ref cl := ecd.symm.trans hcl
  subst ec
  refine ⟨_, PSs.nox (pss_cons (ps_set (i := 1) scLaw.nd rfl (Or.inl rfl) (pe_call GB (hr.mono (by decide)) rfl L.beg.g L.beg.fn.kp bB .nil pass0 (pa_cons (pv 0) pa_nil)))
      (pss_cons (ps_for PassesOwn.never rfl (pi_list (pe_lst (pa_cons pe_str (pa_cons pe_str (pa_cons pe_str (pa_cons pe_str (pa_cons pe_str (pa_cons (pe_op op_pow pe_int pe_int) (pa_cons (pe_op op_sub pe_int (pe_op op_pow pe_int pe_int)) (pa_cons pe_bl (pa_cons (pe_lst (pa_cons pe_str pa_nil)) (pa_cons (pe_tup (pa_cons pe_str (pa_cons (pe_lst (pa_cons pe_str pa_nil)) pa_nil))) (pa_cons (pe_tup (pa_cons pe_str (pa_cons pe_str pa_nil))) (pa_cons (pe_call GN (hr.mono (by decide)) rfl L.nst.g L.nst.fn.kp bN .nil pass0 (pa_cons pe_int (pa_cons pe_str pa_nil))) (pa_cons (pe_tup (pa_cons pe_str (pa_cons pe_bl pa_nil))) pa_nil))))))))))))))) (pg_name (i := 10) scLaw.nd rfl (Or.inr rfl))
      (pss_one (ps_if (pt_cmpR (op_neD hr.units) (pe_word (k := 4) L rfl rfl rfl TBw TBl rfl hmT hu (hr.mono (by decide)) rfl (lamS_by (sc := defScope (top 44)) (by decide +kernel)) rfl (fun _ _ _ _ _ => rfl) (fun pins σ H s I A outer s1 H1 E f c' hr2 un hfo => pe_call GT (hr2.mono (by decide)) rfl L.D.text.g L.D.text.fn.kp bT .nil (passes_call (takes_of rfl rfl rfl rfl) (fun _ _ _ _ h => h)) (pa_cons (pv 10) pa_nil))) (pe_tup (pa_cons pe_str (pa_cons pe_int pa_nil))) (nomark _)) (pss_one (ps_ret pe_bl)) pss_nil)))
      (pss_cons (ps_set (i := 2) scLaw.nd rfl (Or.inl rfl) (pe_call GN (hr.mono (by decide)) rfl L.nst.g L.nst.fn.kp bN .nil pass0 (pa_cons pe_int (pa_cons pe_str pa_nil))))
      (pss_cons (ps_if (PW.pt (pw_or (pt_not (pt_val (pe_callG GI hr hg rfl L.is_.g L.is_.fn.kp bI pass0 (pa_cons (pe_call GT (hr.mono (by decide)) rfl L.D.text.g L.D.text.fn.kp bT .nil passE0 (pa_cons (pv 2) pa_nil)) (pa_cons (pe_op op_add_str (pe_op op_add_str (pe_op op_mulS pe_str pe_int) pe_str) (pe_op op_mulS pe_str pe_int)) pa_nil))))) (pw_or (pt_cmpR (op_neD hr.units) (pe_call GR (hr.mono (by decide)) rfl L.rd.g L.rd.fn.kp bR .nil passE0 (pa_cons (pe_op op_add_str (pe_op op_add_str (pe_op op_mulS pe_str pe_int) pe_str) (pe_op op_mulS pe_str pe_int)) pa_nil)) (pv 2) (nomark _)) (pw_or1 (pt_cmpR (op_neD hr.units) (pe_word (k := 4) L rfl rfl rfl TBw TBl rfl hmT hu (hr.mono (by decide)) rfl (lamS_by (sc := defScope (top 44)) (by decide +kernel)) rfl (fun _ _ _ _ _ => rfl) (fun pins σ H s I A outer s1 H1 E f c' hr2 un hfo => pe_call GR (hr2.mono (by decide)) rfl L.rd.g L.rd.fn.kp bR .nil (passes_call (takes_of rfl rfl rfl rfl) (fun _ _ _ _ h => h)) (pa_cons (pe_op op_add_str (pe_op op_add_str (pe_op op_mulS pe_str pe_int) pe_str) (pe_op op_mulS pe_str pe_int)) pa_nil))) (pe_tup (pa_cons pe_str (pa_cons pe_int pa_nil))) (nomark _)))))) (pss_one (ps_ret pe_bl)) pss_nil)
      (pss_cons (ps_for PassesOwn.never rfl (pi_list (pe_lst (pa_cons pe_non (pa_cons pe_int (pa_cons pe_str (pa_cons pe_str (pa_cons pe_str (pa_cons pe_str (pa_cons pe_str (pa_cons pe_str (pa_cons pe_str (pa_cons pe_str (pa_cons pe_str (pa_cons pe_str (pa_cons pe_str (pa_cons pe_str (pa_cons pe_str (pa_cons pe_str (pa_cons pe_str (pa_cons pe_str (pa_cons pe_str (pa_cons pe_str (pa_cons pe_str (pa_cons pe_str (pa_cons pe_str (pa_cons pe_str (pa_cons pe_str (pa_cons pe_str (pa_cons pe_str (pa_cons pe_str pa_nil)))))))))))))))))))))))))))))) (pg_name (i := 10) scLaw.nd rfl (Or.inr rfl))
      (pss_one (ps_if (pt_cmpR (op_neD hr.units) (pe_word (k := 4) L rfl rfl rfl TBw TBl rfl hmT hu (hr.mono (by decide)) rfl (lamS_by (sc := defScope (top 44)) (by decide +kernel)) rfl (fun _ _ _ _ _ => rfl) (fun pins σ H s I A outer s1 H1 E f c' hr2 un hfo => pe_call GR (hr2.mono (by decide)) rfl L.rd.g L.rd.fn.kp bR .nil (passes_call (takes_of rfl rfl rfl rfl) (fun _ _ _ _ h => h)) (pa_cons (pv 10) pa_nil))) (pe_tup (pa_cons pe_str (pa_cons pe_int pa_nil))) (nomark _)) (pss_one (ps_ret pe_bl)) pss_nil)))
      (pss_cons (ps_for PassesOwn.never rfl (pi_range1 rfl L.G.range (pa_cons (pe_op op_add pe_int (pe_callB (call_min2 rfl) rfl L.G.min (by decide +kernel) (pa_cons (pe_callB call_len_seq (by rfl) L.G.len PySem.boot_len (pa_cons (pv 0) pa_nil)) (pa_cons pe_int pa_nil)))) pa_nil)) (pg_name (i := 3) scLaw.nd rfl (Or.inl rfl))
      (pss_cons (ps_par (i := 4) (j := 5) (by rfl) scLaw.nd rfl rfl (by decide) rfl rfl (pa_cons (pe_call GS (hr.mono (by decide)) rfl L.som.g L.som.fn.kp bS .nil pass0 (pa_cons (pv 1) (pa_cons pe_int pa_nil))) (pa_cons (pe_call GS (hr.mono (by decide)) rfl L.som.g L.som.fn.kp bS .nil pass0 (pa_cons (pv 1) (pa_cons pe_int pa_nil))) pa_nil)) (by rfl))
      (pss_cons (ps_set (i := 6) scLaw.nd rfl (Or.inl rfl) (pe_call GV (hr.mono (by decide)) rfl L.ltx.g L.ltx.fn.kp bV .nil pass0 (pa_cons (pv 4) pa_nil)))
      (pss_cons (ps_if (PW.pt (pw_or (pt_not (pt_val (pe_callG GI hr hg rfl L.is_.g L.is_.fn.kp bI pass0 (pa_cons (pe_call GT (hr.mono (by decide)) rfl L.D.text.g L.D.text.fn.kp bT .nil passE0 (pa_cons (pv 4) pa_nil)) (pa_cons (pv 6) pa_nil))))) (pw_or (pt_not (pt_val (pe_callG GI hr hg rfl L.is_.g L.is_.fn.kp bI pass0 (pa_cons (pe_call GR (hr.mono (by decide)) rfl L.rd.g L.rd.fn.kp bR .nil passE0 (pa_cons (pv 6) pa_nil)) (pa_cons (pv 4) pa_nil))))) (pw_or (pt_not (pt_val (pe_callG GI hr hg rfl L.is_.g L.is_.fn.kp bI pass0 (pa_cons (pe_kw1 GR (hr.mono (by decide)) rfl L.rd.g L.rd.fn.kp kR passE0 (pv 6)) (pa_cons (pv 4) pa_nil))))) (pw_or1 (pt_not (pt_val (pe_callG GI hr hg rfl L.is_.g L.is_.fn.kp bI pass0 (pa_cons (pe_kw1 GT (hr.mono (by decide)) rfl L.D.text.g L.D.text.fn.kp kT passE0 (pv 4)) (pa_cons (pv 6) pa_nil)))))))))) (pss_one (ps_ret pe_bl)) pss_nil)
      (pss_cons (ps_if (pt_cmpR op_ne (pe_cmpR op_eq (pe_call GT (hr.mono (by decide)) rfl L.D.text.g L.D.text.fn.kp bT .nil passE0 (pa_cons (pv 4) pa_nil)) (pe_call GT (hr.mono (by decide)) rfl L.D.text.g L.D.text.fn.kp bT .nil passE0 (pa_cons (pv 5) pa_nil)) (nomark _)) (pe_cmpR (op_eqD hr.units) (pv 4) (pv 5) (nomark _)) (nomark _)) (pss_one (ps_ret pe_bl)) pss_nil)
      (pss_cons (ps_set (i := 7) scLaw.nd rfl (Or.inl rfl) (pe_call GD (hr.mono (by decide)) rfl L.drw.g L.drw.fn.kp bD .nil pass0 (pa_cons (pv 1) (pa_cons (pe_op op_add (pe_callB call_len_str (by rfl) L.G.len PySem.boot_len (pa_cons (pv 6) pa_nil)) pe_int) pa_nil))))
      (pss_cons (ps_set (i := 9) scLaw.nd rfl (Or.inr rfl) (pe_call GP (hr.mono (by decide)) rfl L.pck.g L.pck.fn.kp bP .nil pass0 (pa_cons (pv 1) (pa_cons (pe_lst (pa_cons (pe_op op_add_str (pe_op op_add_str (pe_slice sl_str (pv 6) po_none (po_some (pv 7))) (pe_call GP (hr.mono (by decide)) rfl L.pck.g L.pck.fn.kp bP .nil pass0 (pa_cons (pv 1) (pa_cons (pe_lst (pa_cons pe_str (pa_cons pe_str (pa_cons pe_str (pa_cons pe_str pa_nil))))) pa_nil)))) (pe_slice sl_str (pv 6) (po_some (pv 7)) po_none)) (pa_cons (pe_op op_add_str (pe_slice sl_str (pv 6) po_none (po_some (pv 7))) (pe_slice sl_str (pv 6) (po_some (pe_op op_add (pv 7) pe_int)) po_none)) pa_nil))) pa_nil))))
      (pss_cons (ps_set (i := 8) scLaw.nd rfl (Or.inl rfl) (pe_word (k := 4) L rfl rfl rfl TBw TBl rfl hmT hu (hr.mono (by decide)) rfl (lamS_by (sc := defScope (top 44)) (by decide +kernel)) rfl (fun _ _ _ _ _ => rfl) (fun pins σ H s I A outer s1 H1 E f c' hr2 un hfo => pe_call GR (hr2.mono (by decide)) rfl L.rd.g L.rd.fn.kp bR .nil (passes_call (takes_of rfl rfl rfl rfl) (fun _ _ _ _ h => h)) (pa_cons (pv 9) pa_nil))))
      (pss_one (ps_if (PW.pt (pw_and (pt_cmpR (op_neD hr.units) (pv 8) (pe_tup (pa_cons pe_str (pa_cons pe_int pa_nil))) (nomark _)) (pw_and1 (PW.pt (pw_or (pt_not (pt_val (pe_call GL (hr.mono (by decide)) rfl L.pla.g L.pla.fn.kp bL .nil pass0 (pa_cons (pv 8) pa_nil)))) (pw_or1 (pt_cmpR op_ne (pe_call GV (hr.mono (by decide)) rfl L.ltx.g L.ltx.fn.kp bV .nil pass0 (pa_cons (pv 8) pa_nil)) (pv 9) (nomark _)))))))) (pss_one (ps_ret pe_bl)) pss_nil))))))))))
      (pss_one (ps_ret pe_bl)))))))), ?_⟩
  obtain ⟨a, ns, rfl, ha, hn, hT, hQ⟩ := h
  refine ⟨_, rfl, a, ns, rfl, ha, by omega, fun H1 sa g c s1 hsa hg S1 => ?_⟩
  have hT1 := hT.ext s1
  have ha1 := s1.seq ha
  clear hT ha s1
  -- the first list of things
  have e12 : (10 : Int) ^ (12 : Int).toNat = 1000000000000 := by decide
  refine ⟨10, 12, rfl, rfl, ⟨by decide, by decide, by decide⟩, 10, 12, rfl, rfl, ⟨by decide, by decide, by decide⟩, _, _, rfl, rfl, by show 1 ≤ sizeLine; decide, fun l1 hl1 => ?_⟩
  refine ⟨by show 1 ≤ sizeLine; decide, fun l2 hl2 => ⟨by show 2 ≤ sizeLine; decide, fun t1 ht1 => ⟨by show 2 ≤ sizeLine; decide, fun t2 ht2 => ?_⟩⟩⟩
  have q1 : Dv (L2.upd H1 l1 (.lst [.str "a"])) (.ref l1) (.list [.str "a"]) := dv_lst1 upd_same (.str "a")
  have q2 : Dv (L2.upd (L2.upd H1 l1 (.lst [.str "a"])) l2 (.lst [.str "b"])) (.ref l2) (.list [.str "b"]) := dv_lst1 upd_same (.str "b")
  have m1 := same_new (o := .lst [V.str "a"]) hl1
  have m2 := same_new (o := .lst [V.str "b"]) hl2
  have m3 := same_new (o := .tup [V.str "a", .ref l2]) ht1
  have m4 := same_new (o := .tup [V.str "a", .str "B"]) ht2
  have q3 : Dv (L2.upd (L2.upd (L2.upd H1 l1 (.lst [.str "a"])) l2 (.lst [.str "b"])) t1 (.tup [.str "a", .ref l2])) (.ref t1) (.tuple [.str "a", .list [.str "b"]]) := dv_tup2 upd_same (.str "a") (q2.same m3)
  have q4 : Dv (L2.upd (L2.upd (L2.upd (L2.upd H1 l1 (.lst [.str "a"])) l2 (.lst [.str "b"])) t1 (.tup [.str "a", .ref l2])) t2 (.tup [.str "a", .str "B"])) (.ref t2) (.tuple [.str "a", .str "B"]) := dv_tup2 upd_same (.str "a") (.str "B")
  have q1' := ((q1.same m2).same m3).same m4
  have q3' := q3.same m4
  have sm := ((m1.trans m2).trans m3).trans m4
  generalize L2.upd (L2.upd (L2.upd (L2.upd H1 l1 (.lst [.str "a"])) l2 (.lst [.str "b"])) t1 (.tup [.str "a", .ref l2])) t2 (.tup [.str "a", .str "B"]) = H2 at q1' q3' q4 sm ⊢
  clear q1 q2 q3 m1 m2 m3 m4 hl1 hl2 ht1 ht2
  refine ⟨60, .str "a", .str "a", rfl, by decide, .str "a", rfl, fun H3 u s3 du => ⟨by show 2 ≤ sizeLine; decide, fun t3 ht3 => ⟨by show 13 ≤ sizeLine; decide, fun l hl => ?_⟩⟩⟩
  have m5 := same_new (o := .tup [V.str "a", .bl true]) ht3
  have q6 : Dv (L2.upd H3 t3 (.tup [.str "a", .bl true])) (.ref t3) (.tuple [.str "a", .bool true]) := dv_tup2 upd_same (.str "a") (.bl true)
  have m6 := same_new (o := .lst [V.str "A", .str "", .str "a b", .str "a1", .str "-", .int ((10 : Int) ^ (12 : Int).toNat), .int (0 - (10 : Int) ^ (12 : Int).toNat), .bl true, .ref l1, .ref t1, .ref t2, u, .ref t3]) hl
  have s36 := (s3.trans m5).trans m6
  have dth : DvL (L2.upd (L2.upd H3 t3 (.tup [.str "a", .bl true])) l (.lst [V.str "A", .str "", .str "a b", .str "a1", .str "-", .int ((10 : Int) ^ (12 : Int).toNat), .int (0 - (10 : Int) ^ (12 : Int).toNat), .bl true, .ref l1, .ref t1, .ref t2, u, .ref t3])) [V.str "A", .str "", .str "a b", .str "a1", .str "-", .int ((10 : Int) ^ (12 : Int).toNat), .int (0 - (10 : Int) ^ (12 : Int).toNat), .bl true, .ref l1, .ref t1, .ref t2, u, .ref t3] badD := by
    rw [e12]
    exact (DvL.one (.str "A")).app <| (DvL.one (.str "")).app <| (DvL.one (.str "a b")).app <| (DvL.one (.str "a1")).app <| (DvL.one (.str "-")).app <| (DvL.one (.int _)).app <| (DvL.one (.int _)).app <| (DvL.one (.bl true)).app <| (DvL.one (q1'.same s36)).app <| (DvL.one (q3'.same s36)).app <| (DvL.one (q4.same s36)).app <| (DvL.one ((du.same m5).same m6)).app (DvL.one (q6.same m6))
  have hl3 : (L2.upd (L2.upd H3 t3 (.tup [.str "a", .bl true])) l (.lst [V.str "A", .str "", .str "a b", .str "a1", .str "-", .int ((10 : Int) ^ (12 : Int).toNat), .int (0 - (10 : Int) ^ (12 : Int).toNat), .bl true, .ref l1, .ref t1, .ref t2, u, .ref t3])) l = some (.lst [V.str "A", .str "", .str "a b", .str "a1", .str "-", .int ((10 : Int) ^ (12 : Int).toNat), .int (0 - (10 : Int) ^ (12 : Int).toNat), .bl true, .ref l1, .ref t1, .ref t2, u, .ref t3]) := upd_same
  have s14 := sm.trans s36
  generalize [V.str "A", .str "", .str "a b", .str "a1", .str "-", .int ((10 : Int) ^ (12 : Int).toNat), .int (0 - (10 : Int) ^ (12 : Int).toNat), .bl true, .ref l1, .ref t1, .ref t2, u, .ref t3] = things at dth hl3 s14 ⊢
  generalize L2.upd (L2.upd H3 t3 (.tup [.str "a", .bl true])) l (.lst things) = H4 at dth hl3 s14 ⊢
  have hT4 := hT1.ext s14
  have ha4 := s14.seq ha1
  have S4 := S1.same s14
  -- told is ('text', 0), which is compared with ('text', 0)
  have cmp : ∀ (Q' : VK) (H5 : Hp) (tp : Addr) (σ : L2.St), H5 tp = some (.tup [.str "text", .int 0]) → (∀ H6, Same H5 H6 → Q' (.bl false) H6) → tTup (tCons (tC (.str "text")) (tCons (tC (.int 0)) tNil)) σ H5 fun y H6 => rNeD K (.ref tp) y H6 Q' := fun Q' H5 tp σ h k => by
    refine ⟨by show 2 ≤ sizeLine; decide, fun tq htq => ?_⟩
    refine ⟨tx0, tx0, ((tx0_dv h).same (same_new htq)).dp, (tx0_dv upd_same).dp, tx0_shaped, tx0_shaped, ?_⟩
    have : PyData.eqv tx0 tx0 = true := SeqAt.eqv_refl tx0 (SeqAt.canLay_of_shaped tx0_shaped)
    rw [this]
    exact k _ (same_new htq)
  refine ⟨l, rfl, ⟨_, SqL.of hl3⟩, for_list (K := K) (a := l) (xs := things) (fun i σ H' => ∃ v10, σ = [some (.ref a), some (.ref sa), none, none, none, none, none, none, none, none, v10] ∧ ExtN H4 H' ∧ Tabs T H') ⟨none, rfl, ExtN.refl _, hT4⟩ (fun i σ H' _ ⟨_, _, e, _⟩ => SqL.of (e _ _ hl3 (fun _ z => nomatch z))) ?_ ?_⟩
  · rintro i x σ H' hx ⟨v10, rfl, e5, hT5⟩
    obtain ⟨d, hd, dx⟩ := dth.get hx
    obtain ⟨hv, hw⟩ := bad_val d (List.mem_of_getElem? hd)
    refine ⟨hT5, fun H6 c' e6 hT6 hc6 => ⟨fun E1 E2 Hx Q1 Q2 hE hQ hh => ?_, fun H7 E1 Q1 e7 hT7 hE hQ' => ?_, hT6⟩⟩
    · obtain ⟨y, h1, h2⟩ := hh
      exact ⟨y, h1, mono_text hE hQ h2⟩
    · refine ⟨x, rfl, x, d, rfl, ((dx.extN e5).extN e6).extN e7, hw, fun z => (by rw [hv] at z; cases z), fun _ H8 dd s8 hdd => hE _ dd (s8.trans (same_new hdd)) upd_same fun H9 tp e9 hT9 htp => ?_⟩
      refine cmp _ H9 tp _ htp fun H10 s10 => ⟨_, rfl, iteF ⟨some x, rfl, ((e5.trans e6).trans e9).trans (ExtN.of s10), hT9.ext s10⟩⟩
  rintro σ H5 ⟨v10, rfl, e5, hT5⟩
  have ha5 := sq_extN e5 ha4
  have S5 := S4.extN e5
  clear dth hl3 S4 ha4 hT4 e5 s14 s36 m6 q6 m5 du q1' q3' q4 sm S1 ha1 hT1
  -- the deepest value
  refine ⟨59, .str "a", .str "a", rfl, by decide, .str "a", rfl, fun H6 u s6 du => ?_⟩
  have hT6 := hT5.ext s6
  have ha6 := s6.seq ha5
  have S6 := S5.same s6
  have la : ∀ a b : Str, (a ++ b).length = a.length + b.length := fun a b => by
    have := congrArg List.length (TL.tl_append a b)
    simpa [TL.tl, Str.length] using this
  have pr : ∀ (n : Nat), n ≤ 60 → 2 ≤ n → (Txt.mul "(" n).length = n → (Txt.mul ")" n).length = n → ∀ (x : Int), x = (n : Int) → ∀ (Q' : VK) (σ : L2.St) (H' : Hp), Q' (.str (par n)) H' → tOp (fun x y H Q => ∃ i j, x = V.str i ∧ y = V.str j ∧ i.length + j.length ≤ sizeLine ∧ Q (V.str (i ++ j)) H) (tOp (fun x y H Q => ∃ i j, x = V.str i ∧ y = V.str j ∧ i.length + j.length ≤ sizeLine ∧ Q (V.str (i ++ j)) H) (tOp rMulS (tC (.str "(")) (tC (.int x))) (tC (.str "a"))) (tOp rMulS (tC (.str ")")) (tC (.int x))) σ H' Q' := fun n hn h2 h3 h4 x hx Q' σ H' hq => by
    subst hx
    have l1 : ("a" : Str).length = 1 := by decide
    refine ⟨"(", n, rfl, rfl, mulOk60 40 n h2 (by omega), _, _, rfl, rfl, ?_, ")", n, rfl, rfl, mulOk60 41 n h2 (by omega), _, _, rfl, rfl, ?_, hq⟩
    · exact most_line9 (by omega)
    · rw [la]
      exact most_line9 (by omega)
  have pr59 := pr 59 (by decide) (by decide) len1.2.1 len1.2.2.2 59 rfl
  have nN : Nice (nest 59 (.str "a")) := nice_val val59 (Nat.le_refl _) (Nat.le_trans wt59 (by decide))
  have nS : Nice (.str (par 59)) := nice_str asc59 (Nat.le_trans len60.2 (by decide))
  have rN := roundtrip val59
  rw [par59] at rN
  have er : PyData.eqv (nest 59 (.str "a")) (nest 59 (.str "a")) = true := SeqAt.eqv_refl _ (SeqAt.canLay_of_shaped nN.sh)
  refine ⟨_, rfl, u, nest 59 (.str "a"), rfl, du, nN.wt, fun _ H7 s7 => ?_, fun z => (by rw [val59] at z; cases z)⟩
  rw [par59]
  refine pr59 _ _ _ ?_
  refine ⟨_, _, .str (par 59), rfl, .str _, .str _, nS, fun H8 s8 => ⟨true, rfl, iteF ?_⟩⟩
  refine ⟨"(", 59, rfl, rfl, mulOk60 40 59 (by decide) (by decide), _, _, rfl, rfl, b59, ")", 59, rfl, rfl, mulOk60 41 59 (by decide) (by decide), _, _, rfl, rfl, c59, ?_⟩
  refine ⟨.str (par 59), rfl, .inl ⟨par 59, rfl, Nat.le_trans len60.2 (by decide), fun d hd H9 v s9 dv => ?_, fun z => (by rw [rN] at z; cases z)⟩⟩
  rw [rN] at hd
  cases hd
  have du9 := ((du.same s7).same s8).same s9
  have s69 := (s7.trans s8).trans s9
  refine ⟨_, rfl, _, _, dv.dp, du9.dp, nN.sh, nN.sh, _, rfl, ifF (by rw [er]; rfl) ?_⟩
  have hT9 := hT6.ext s69
  have ha9 := s69.seq ha6
  have S9 := S6.same s69
  refine ⟨hT9, fun H10 c' e10 hT10 hc10 => ⟨fun E1 E2 Hx Q1 Q2 hE hQ hh => ?_, fun H11 E1 Q1 e11 hT11 hE hQ' => ?_, hT10⟩⟩
  · obtain ⟨z, n, q1, q2, q3, i, j, q4, q5, q6, z2, n2, q7, q8, q9, i2, j2, p1, p2, p3, p4⟩ := hh
    exact ⟨z, n, q1, q2, q3, i, j, q4, q5, q6, z2, n2, q7, q8, q9, i2, j2, p1, p2, p3, mono_read hE hQ p4⟩
  refine ⟨"(", 60, rfl, rfl, mulOk60 40 60 (by decide) (by decide), _, _, rfl, rfl, b60, ")", 60, rfl, rfl, mulOk60 41 60 (by decide) (by decide), _, _, rfl, rfl, c60, ?_⟩
  refine ⟨.str (par 60), rfl, .inl ⟨par 60, rfl, Nat.le_trans len60.1 (by decide), fun d hd => (by rw [par60] at hd; cases hd), fun _ H12 dd s12 hdd => hE _ dd (s12.trans (same_new hdd)) upd_same fun H13 tp e13 hT13 htp => ?_⟩⟩
  refine cmp _ H13 tp _ htp fun H14 s14 => ⟨_, rfl, iteF ?_⟩
  have e914 := (e10.trans e13).trans (ExtN.of s14)
  have hT14 := hT13.ext s14
  have ha14 := sq_extN e914 ha9
  have S14 := S9.extN e914
  clear e914 hT13 htp e13 hdd s12 hE hQ' hT11 e11 hc10 hT10 e10 S9 ha9 hT9 s69 du9 dv s9 s8 s7 er rN nN nS pr59 pr S6 ha6 hT6 du s6 S5 ha5 hT5
  -- texts that are none
  refine ⟨by show 28 ≤ sizeLine; decide, fun l2 hl2 => ?_⟩
  have items : ∀ (i : Nat) (x : V), (V.non :: V.int 5 :: badT.map V.str)[i]? = some x → (x = .non ∨ ∃ n, x = .int n) ∨ ∃ s, x = .str s ∧ readV s = none ∧ s.length ≤ 1000 := fun i x hx => by
    match i, hx with
    | 0, hx => exact .inl (.inl (Option.some.inj hx).symm)
    | 1, hx => exact .inl (.inr ⟨5, (Option.some.inj hx).symm⟩)
    | i + 2, hx =>
      have hx : (badT.map V.str)[i]? = some x := hx
      obtain ⟨s, hs, e⟩ := List.mem_map.mp (List.mem_of_getElem? hx)
      obtain ⟨h1, h2⟩ := bad_text s hs
      exact .inr ⟨s, e.symm, h1, h2⟩
  refine ⟨l2, rfl, ⟨V.non :: V.int 5 :: badT.map V.str, SqL.of upd_same⟩, ?_⟩
  have s15 : Same H14 (L2.upd H14 l2 (.lst (V.non :: V.int 5 :: badT.map V.str))) := same_new hl2
  have hl3 : (L2.upd H14 l2 (.lst (V.non :: V.int 5 :: badT.map V.str))) l2 = some (.lst (V.non :: V.int 5 :: badT.map V.str)) := upd_same
  generalize hH15 : L2.upd H14 l2 (.lst (V.non :: V.int 5 :: badT.map V.str)) = H15 at s15 hl3
  have hH15' : L2.upd H14 l2 (.lst [V.non, .int 5, .str "", .str " ", .str "A", .str "a b", .str "01", .str "-0", .str "--1", .str "+1", .str "1000000000000", .str "(", .str ")", .str "(a", .str "a)", .str "(a))", .str "( a)", .str "(a )", .str "(a  b)", .str "()()", .str "(a)(b)", .str "a()", .str "1a", .str "a1", .str "- 1", .str "(-)-", .str "(a
b)", .str "1/2"]) = H15 := hH15
  rw [hH15']
  generalize (V.non :: V.int 5 :: badT.map V.str) = texts at items hl3 hH15
  clear hH15 hH15'
  have hT15 := hT14.ext s15
  have ha15 := s15.seq ha14
  have S15 := S14.same s15
  refine for_list (K := K) (a := l2) (xs := texts) (fun i σ H' => ∃ v2 v10 : Option V, σ = [some (.ref a), some (.ref sa), v2, none, none, none, none, none, none, none, v10] ∧ ExtN H15 H' ∧ Tabs T H') ⟨_, _, rfl, ExtN.refl _, hT15⟩ (fun i σ H' _ ⟨_, _, _, e, _⟩ => SqL.of (e _ _ hl3 (fun _ z => nomatch z))) ?_ ?_
  · rintro i x σ H' hx ⟨v2, v10, rfl, e16, hT16⟩
    have ix := items i x hx
    refine ⟨hT16, fun H6 c' e6 hT6 hc6 => ⟨fun E1 E2 Hx Q1 Q2 hE hQ hh => ?_, fun H7 E1 Q1 e7 hT7 hE hQ' => ?_, hT6⟩⟩
    · obtain ⟨y, h1, h2⟩ := hh
      exact ⟨y, h1, mono_read hE hQ h2⟩
    · have rais : Rais L.C E1 H7 := fun H8 dd s8 hdd => hE _ dd (s8.trans (same_new hdd)) upd_same fun H9 tp e9 hT9 htp => by
        refine cmp _ H9 tp _ htp fun H10 s10 => ⟨_, rfl, iteF ⟨v2, some x, rfl, ((e16.trans e6).trans e9).trans (ExtN.of s10), hT9.ext s10⟩⟩
      refine ⟨x, rfl, x, rfl, ?_⟩
      rcases ix with h | ⟨s, rfl, h1, h2⟩
      · exact .inr ⟨h, rais⟩
      · exact .inl ⟨s, rfl, by omega, fun d hd => (by rw [h1] at hd; cases hd), fun _ => rais⟩
  rintro σ H16 ⟨v2, v10, rfl, e16, hT16⟩
  have ha16 := sq_extN e16 ha15
  have S16 := S15.extN e16
  clear e16 S15 ha15 hT15 s15 hl3 items hl2 S14 ha14 hT14
  -- the turns
  have lns : (ns.map V.int).length = ns.length := List.length_map ..
  refine ⟨_, rfl, a, _, rfl, .inl ha16, _, _, rfl, _, _, rfl, rfl, ?_⟩
  generalize (List.map V.int ns).length = len at *
  refine ⟨_, rfl, ?_, ?_, ?_⟩
  · split <;> omega
  · split <;> omega
  have hN : (8 + if (10 : Int) < (len : Int) then 10 else (len : Int)).toNat ≤ 18 := by split <;> omega
  generalize (8 + if (10 : Int) < (len : Int) then 10 else (len : Int)).toNat = N at hN ⊢
  have la : ∀ a b : Str, (a ++ b).length = a.length + b.length := fun a b => by
    have := congrArg List.length (TL.tl_append a b)
    simpa [TL.tl, Str.length] using this
  have nsg : ∀ {H : Hp} {b : Nat} {l : Addr}, StOk H sa g c b → H l = none → l ≠ sa ∧ l ≠ g := fun {H b l} S hl => by
    obtain ⟨⟨r, t, e1, _⟩, ⟨gs, eg, _⟩, _⟩ := S
    exact ⟨Ne.symm (ne_of_none e1 hl), Ne.symm (ne_of_none eg hl)⟩
  refine for_range (lo := 0) (n := N) (fun i σ H' => ∃ v2 v3 v4 v5 v6 v7 v8 v9 v10 : Option V, σ = [some (.ref a), some (.ref sa), v2, v3, v4, v5, v6, v7, v8, v9, v10] ∧ Tabs T H' ∧ StOk H' sa g c (1000000 - 200 * i)) ⟨_, _, _, _, _, _, _, _, _, rfl, hT16, S16⟩ ?_ ?_
  · rintro i σ H1 hi ⟨v2, v3, v4, v5, v6, v7, v8, v9, v10, rfl, hT1, S1⟩
    have hi18 : i < 18 := by omega
    have c3 : cst 3 = 80 := rfl
    have w3 : wtb 3 = 471 := rfl
    refine ⟨_, rfl, sa, g, c, 1000000 - 200 * i - 80, 3, rfl, by decide, S1.weak (by rw [c3]; omega), fun H2 x1 d1 S2 k2 dx1 D1 => ⟨_, rfl, sa, g, c, 1000000 - 200 * i - 160, 3, rfl, by decide, S2.weak (by rw [c3]; omega), fun H3 x2 d2 S3 k3 dx2 D2 => ⟨_, _, rfl, ?_⟩⟩⟩
    have hT3 := Kp.tabs S2 k3 (Kp.tabs S1 k2 hT1)
    have dx1 := dx1.text (Kp.text S2 k3) (val_pl d1 3 D1.1)
    have va1 := val_mono d1 3 59 (by decide) D1.1
    have va2 := val_mono d2 3 59 (by decide) D2.1
    have wa1 : wt d1 ≤ 471 := D1.2
    have wa2 : wt d2 ≤ 471 := D2.2
    have wm1 : wt d1 ≤ most := Nat.le_trans wa1 (by decide)
    have wm2 : wt d2 ≤ most := Nat.le_trans wa2 (by decide)
    have lt1 : (textD d1).length ≤ 471 := by have := len_text va1; omega
    have n1 : Nice d1 := nice_val va1 (Nat.le_refl _) (by omega)
    have n2 : Nice d2 := nice_val va2 (Nat.le_refl _) (by omega)
    have nt : Nice (.str (textD d1)) := nice_str (text_asc va1) (by omega)
    have rt := roundtrip va1
    refine ⟨_, rfl, x1, d1, 3, rfl, dx1, D1.1, by decide, wm1, fun H4 s4 => ?_⟩
    refine ⟨_, rfl, x1, d1, rfl, dx1.same s4, wm1, fun _ H5 s5 => ⟨_, rfl, _, _, .str (textD d1), rfl, .str _, .str _, nt, fun H6 s6 => ⟨true, rfl, iteF ?_⟩⟩, fun z => (by rw [va1] at z; cases z)⟩
    have s46 := (s4.trans s5).trans s6
    refine ⟨_, rfl, _, rfl, .inl ⟨textD d1, rfl, by omega, fun d hd H7 y s7 dy => ?_, fun z => (by rw [rt] at z; cases z)⟩⟩
    rw [rt] at hd
    cases hd
    refine ⟨_, rfl, y, x1, d1, rfl, dy, dx1.same (s46.trans s7), n1, fun H8 s8 => ⟨true, rfl, iteF ?_⟩⟩
    have s48 := (s46.trans s7).trans s8
    refine ⟨_, rfl, _, rfl, .inl ⟨textD d1, rfl, by omega, fun d hd H9 y s9 dy => ?_, fun z => (by rw [rt] at z; cases z)⟩⟩
    rw [rt] at hd
    cases hd
    refine ⟨_, rfl, y, x1, d1, rfl, dy, dx1.same (s48.trans s9), n1, fun H10 s10 => ⟨true, rfl, iteF ?_⟩⟩
    have s410 := (s48.trans s9).trans s10
    refine ⟨_, rfl, x1, d1, rfl, dx1.same s410, wm1, fun _ H11 s11 => ⟨_, rfl, _, _, .str (textD d1), rfl, .str _, .str _, nt, fun H12 s12 => ⟨true, rfl, iteF ?_⟩⟩, fun z => (by rw [va1] at z; cases z)⟩
    have s412 := (s410.trans s11).trans s12
    refine ⟨_, rfl, x1, d1, rfl, dx1.same s412, wm1, fun _ H13 s13 => ⟨_, rfl, x2, d2, rfl, dx2.same (s412.trans s13), wm2, fun _ H14 s14 => ?_, fun z => (by rw [va2] at z; cases z)⟩, fun z => (by rw [va1] at z; cases z)⟩
    have s414 := (s412.trans s13).trans s14
    refine ⟨rfl, _, rfl, _, rfl, d1, d2, (dx1.same s414).dp, (dx2.same s414).dp, n1.sh, n2.sh, rfl, _, rfl, ifF (by rw [same_text va1 va2]; simp) ?_⟩
    have S14 := S3.same s414
    have hT14 := hT3.ext s414
    clear dx2 n2 nt n1 dy s410 s48 s46 s4 s5 s6 s7 s8 s9 s10 s11 s12 s13 s14 s412
    have ltz : (textD d1).length ≤ sizeLine := most_line9 (by omega)
    generalize textD d1 = t1 at lt1 rt ltz ⊢
    refine ⟨_, rfl, _, rfl, t1, rfl, ltz, _, _, rfl, rfl, sa, g, c, 1000000 - 200 * i - 161, _, rfl, by omega, by omega, S14.weak (by omega), fun H15 at' S15 k15 a0 a1 => ?_⟩
    obtain ⟨j, rfl⟩ : ∃ j : Nat, at' = (j : Int) := ⟨at'.toNat, by omega⟩
    have hT15 := Kp.tabs S14 k15 hT14
    have cl' : ∀ lo hi : Option Int, (cutS t1 lo hi).length ≤ 471 := fun lo hi => Nat.le_trans (cutS_length t1 lo hi) lt1
    refine ⟨_, rfl, _, rfl, _, rfl, _, rfl, t1, rfl, ltz, _, rfl, by show 4 ≤ sizeLine; decide, fun l4 hl4 => ?_⟩
    obtain ⟨q1, q2⟩ := nsg S15 hl4
    refine ⟨sa, g, c, 1000000 - 200 * i - 162, l4, [.str "(", .str ")", .str " ", .str "A"], rfl, upd_same, q1, q2, by simp, by simp, (S15.same (same_new hl4)).weak (by omega), fun H16 ch S16 k16 hch => ?_⟩
    obtain ⟨s0, rfl, ls0⟩ : ∃ s0 : Str, ch = .str s0 ∧ s0.length = 1 := by
      simp only [List.mem_cons, List.not_mem_nil, or_false] at hch
      rcases hch with rfl | rfl | rfl | rfl
      · exact ⟨_, rfl, by decide⟩
      · exact ⟨_, rfl, by decide⟩
      · exact ⟨_, rfl, by decide⟩
      · exact ⟨_, rfl, by decide⟩
    have hT16 := Kp.tabs (S15.same (same_new hl4)) k16 (hT15.ext (same_new hl4))
    have p1 := cl' none (some (j : Int))
    have p2 := cl' (some (j : Int)) none
    have p3 := cl' (some ((j : Int) + 1)) none
    refine ⟨_, _, rfl, rfl, most_line9 (by omega), _, rfl, _, rfl, _, rfl, t1, rfl, ltz, _, _, rfl, rfl, most_line9 (by rw [la]; omega), ?_⟩
    refine ⟨_, rfl, _, rfl, _, rfl, t1, rfl, ltz, _, rfl, _, rfl, _, _, rfl, rfl, _, rfl, t1, rfl, ltz, _, _, rfl, rfl, most_line9 (by omega), by show 2 ≤ sizeLine; decide, fun l5 hl5 => ?_⟩
    obtain ⟨q3, q4⟩ := nsg S16 hl5
    refine ⟨sa, g, c, 1000000 - 200 * i - 163, l5, _, rfl, upd_same, q3, q4, by simp, by simp, (S16.same (same_new hl5)).weak (by omega), fun H17 xb S17 k17 hxb => ?_⟩
    obtain ⟨bs, rfl, lbs⟩ : ∃ s : Str, xb = .str s ∧ s.length ≤ 2000 := by
      simp only [List.mem_cons, List.not_mem_nil, or_false] at hxb
      rcases hxb with rfl | rfl
      · exact ⟨_, rfl, by rw [la, la]; omega⟩
      · exact ⟨_, rfl, by rw [la]; omega⟩
    have hT17 := Kp.tabs (S16.same (same_new hl5)) k17 (hT16.ext (same_new hl5))
    have last : ∀ (H' : Hp) (b' : Nat), StOk H' sa g c b' → 1000000 - 200 * (i + 1) ≤ b' → StOk H' sa g c (1000000 - 200 * (i + 1)) := fun H' b' S h => S.weak h
    refine ⟨hT17, fun H18 c' e18 hT18 hc18 => ⟨fun E1 E2 Hx Q1 Q2 hE hQ hh => ?_, fun H19 E1 Q1 e19 hT19 hE hQ' => ?_, hT18⟩⟩
    · obtain ⟨y, h1, h2⟩ := hh
      exact ⟨y, h1, mono_read hE hQ h2⟩
    refine ⟨_, rfl, _, rfl, .inl ⟨bs, rfl, by omega, fun d hd H20 y s20 dy => ?_, fun _ H20 dd s20 hdd => hE _ dd (s20.trans (same_new hdd)) upd_same fun H21 tp e21 hT21 htp => ?_⟩⟩
    · refine hQ' y H20 s20 fun H21 t21 e21 hT21 => ?_
      obtain ⟨vd, ed, wd⟩ := readV_some hd
      have S21 := (S17.extN e18).extN e21
      have dy21 := dy.text t21 (val_pl d 59 vd)
      have nd := nice_val vd (Nat.le_refl _) (by omega)
      refine ⟨_, rfl, by show 2 ≤ sizeLine; decide, fun tq htq => ?_⟩
      refine ⟨d, tx0, (dy21.same (same_new htq)).dp, (tx0_dv upd_same).dp, nd.sh, tx0_shaped, ?_⟩
      have S22 := S21.same (same_new (o := .tup [V.str "text", .int 0]) htq)
      have hT22 := hT21.ext (same_new (o := .tup [V.str "text", .int 0]) htq)
      have dy22 := dy21.same (same_new (o := .tup [V.str "text", .int 0]) htq)
      cases heq : PyData.eqv d tx0 with
      | true => exact ⟨_, rfl, iteF (iteF ⟨_, _, _, _, _, _, _, _, _, rfl, hT22, last _ _ S22 (by omega)⟩)⟩
      | false =>
        refine ⟨_, rfl, iteT ?_⟩
        refine ⟨_, rfl, y, d, rfl, dy22, nd.vq, nd.wt, fun H22 s22 => ⟨true, rfl, iteF ?_⟩⟩
        refine ⟨_, rfl, y, d, 59, rfl, dy22.same s22, vd, by decide, nd.wt, fun H23 s23 => ⟨_, rfl, rfl, _, rfl, ifF (by rw [decide_eq_true (congrArg V.str ed)]; rfl) ?_⟩⟩
        exact ⟨_, _, _, _, _, _, _, _, _, rfl, hT22.ext (s22.trans s23), last _ _ (S22.same (s22.trans s23)) (by omega)⟩
    · have S21 := (S17.extN e18).extN e21
      refine ⟨_, rfl, cmp _ H21 tp _ htp fun H22 s22 => ⟨_, rfl, iteF (iteF ⟨_, _, _, _, _, _, _, _, _, rfl, hT21.ext s22, last _ _ (S21.same s22) (by omega)⟩)⟩⟩
  · rintro σ H' _
    exact hQ H'
end
end K88
/-! The law's end, where its promise asks that no repr runs. -/
namespace K88
open PySem PySem.Spec PyProof.Rows L2 Evl LamX
/-- what is tracked as the law is called: the tables of the code objects cs, the script at a (where it is not written out in K) -/
def H0 (K : PySem.W.Frag) (cs : List (Addr × Addr)) (a : Addr) (o : Obj) (ns : List Int) : Hp := fun b => if b ∈ cs.map (·.2) then some (.tbl #[]) else if b = a ∧ K.lookup a = none then some (.frz o (.lst (ns.map V.int))) else none
section
variable {P : Program} {w : World} {K : PySem.W.Frag} {mg mb : Str → Option Value} {k : Nat} {fa a : Addr} {cs : List (Addr × Addr)} {fd : FuncData} {x : Str} {sp : Sp} {s₁ : Shared} {vs : List Value} {ns : List Int}
theorem H0_tab {o : Obj} {p : Addr × Addr} (h : p ∈ cs) : H0 K cs a o ns p.2 = some (.tbl #[]) := if_pos (List.mem_map.mpr ⟨p, h, rfl⟩)
/-- what stands at b there -/
theorem H0_cases {o : Obj} {b : Addr} {u : HO} (h : H0 K cs a o ns b = some u) : (b ∈ cs.map (·.2) ∧ u = .tbl #[]) ∨ (b = a ∧ K.lookup a = none ∧ u = .frz o (.lst (ns.map V.int))) := by
  unfold H0 at h
  split at h
  · rename_i z
    exact .inl ⟨z, (Option.some.inj h).symm⟩
  · split at h
    · rename_i z
      exact .inr ⟨z.1, z.2, (Option.some.inj h).symm⟩
    · cases h
theorem end_G (KX : K.In s₁.heap) (hns : s₁.heap.Ns mainGlobals mg) (hb : s₁.heap.Ns builtinsNs mb) (hbb : ∀ x : Str, x ≠ "__name__" → mb x = bootBuiltins x) (hlim : s₁.heap.NoLimit) (hg : s₁.gens = #[])
    (hT : ∀ p ∈ cs, s₁.heap.get? p.2 = some { cls := .none, data := .fields #[] }) (nT : ∀ p ∈ cs, K.lookup p.2 = none) (C : ∀ p ∈ cs, PySem.W.CodeHd s₁.heap p.1 p.2)
    (hbm : ∃ (bm : Addr) (ob : Obj), mg "__builtins__" = some (.ref bm) ∧ bm ≠ builtinsNs ∧ s₁.heap.get? bm = some ob ∧ ob.cls = .type "module" ∧ ob.dict = some builtinsNs ∧ ob.data = .plain)
    (ha : s₁.heap.get? a = some { cls := .type "list", data := .seq vs.toArray }) (hi : IntsAre vs ns) (hl : ns.length ≤ sizeLine) (hr : Room k callerA)
    (F : ∀ base : Heap, K.In base → base.Ns mainGlobals mg → (∀ p ∈ cs, TabB base mg p.1 p.2) → FnG P w K mg base CX0 k fa fd [x] sp) (hbind : ∀ (s : Shared) (u : Value), BindsTo s fd ⟨[u], []⟩ [(x, u)])
    (hsp : ∀ H : Hp, (∀ p ∈ cs, H p.2 = some (.tbl #[])) → SqL K H a (ns.map V.int) → sp [.ref a] H (fun v _ => v = .bl true) fun _ _ _ => False) :
    codeAny (model P w) callerA (.call (.ref fa) ⟨[.ref a], []⟩) (fun r s' => r = .ok (.ret (.bool true)) ∧ OldK s₁.heap s'.heap ∧ s'.os = s₁.os ∧ AllBare s'.gens) s₁ := by
  have rv := vals_ints hi
  have tabAt : ∀ {b : Addr}, b ∈ cs.map (·.2) → s₁.heap.get? b = some { cls := .none, data := .fields #[] } := fun {b} z => by
    obtain ⟨p, hp, e⟩ := List.mem_map.mp z
    rw [← e]
    exact hT p hp
  -- an object of another kind is not tracked
  have free : ∀ {b : Addr} {o : Obj}, s₁.heap.get? b = some o → (∀ v n, o.data ≠ .seq v n) → o.data ≠ .fields #[] → H0 K cs a { cls := .type "list", data := .seq vs.toArray } ns b = none := fun {b o} e h1 h2 => by
    cases q : H0 K cs a { cls := .type "list", data := .seq vs.toArray } ns b with
    | none => rfl
    | some u =>
      rcases H0_cases q with ⟨z, _⟩ | ⟨z, _, _⟩
      · rw [tabAt z] at e
        cases e
        exact absurd rfl h2
      · rw [z, ha] at e
        cases e
        exact absurd rfl (h1 _ _)
  have freeD : ∀ {b : Addr} {o : Obj} {es : Array DictEntry} {ep : Nat}, s₁.heap.get? b = some o → o.data = .dict es ep → H0 K cs a { cls := .type "list", data := .seq vs.toArray } ns b = none := fun {b o es ep} e d => free e (fun v n z => by rw [d] at z; cases z) (fun z => by rw [d] at z; cases z)
  have ok : HOk P w (H0 K cs a { cls := .type "list", data := .seq vs.toArray } ns) s₁.heap := fun b u q => by
    rcases H0_cases q with ⟨z, rfl⟩ | ⟨rfl, _, rfl⟩
    · exact tabAt z
    · exact ⟨ha, by rw [List.length_map]; exact hl, vs, _, rv, ha⟩
  have sq : SqL K (H0 K cs a { cls := .type "list", data := .seq vs.toArray } ns) a (ns.map V.int) := by
    cases q : K.lookup a with
    | some o =>
      have e := KX a o q
      rw [ha] at e
      cases e
      have lv := hi.length
      exact .inr ⟨_, vs.toArray, _, q, rfl, rfl, rfl, by rw [List.size_toArray, lv]; exact hl, by simpa using rv⟩
    | none =>
      refine .inl (.inr ⟨{ cls := .type "list", data := .seq vs.toArray }, ?_⟩)
      · unfold H0
        rw [if_neg (fun z => by rw [tabAt z] at ha; cases ha), if_pos ⟨rfl, q⟩]
  have kb : K.In (hidT s₁.heap (H0 K cs a { cls := .type "list", data := .seq vs.toArray } ns)) := fun b o e => hidT_get (KX b o e) (by
    cases q : H0 K cs a { cls := .type "list", data := .seq vs.toArray } ns b with
    | none => rfl
    | some u =>
      rcases H0_cases q with ⟨z, _⟩ | ⟨z, z2, _⟩
      · obtain ⟨p, hp, ep⟩ := List.mem_map.mp z
        rw [← ep, nT p hp] at e
        cases e
      · rw [z, z2] at e
        cases e)
  have nsb : ∀ {b : Addr} {m : Str → Option Value}, s₁.heap.Ns b m → (hidT s₁.heap (H0 K cs a { cls := .type "list", data := .seq vs.toArray } ns)).Ns b m := fun {b m} ⟨o, es, ep, e, d, r⟩ => ⟨o, es, ep, hidT_get e (freeD e d), d, r⟩
  have md : L2.Mod K mg (hidT s₁.heap (H0 K cs a { cls := .type "list", data := .seq vs.toArray } ns)) := ⟨kb, nsb hns, ⟨mb, nsb hb, hbb⟩, let ⟨mc, h1, h2⟩ := hlim; ⟨mc, nsb h1, h2⟩⟩
  have TB : ∀ p ∈ cs, TabB (hidT s₁.heap (H0 K cs a { cls := .type "list", data := .seq vs.toArray } ns)) mg p.1 p.2 := fun p hp => by
    obtain ⟨o, us, file, tf, flags, tg, inF, text, tt, e1, r1, r2, r3, r4, r5, r6, r7, r8, hne⟩ := C p hp
    obtain ⟨bm, ob, b1, b2, b3, b4, b5, b6⟩ := hbm
    have gne : ∀ {b : Addr} {oo : Obj} {es : Array DictEntry} {ep : Nat}, s₁.heap.get? b = some oo → oo.data = .dict es ep → b ≠ p.2 := fun {b oo es ep} e d z => by
      rw [z, hT p hp] at e
      cases e
      cases d
    refine ⟨⟨o, us, file, tf, flags, tg, inF, text, tt, hidT_get e1 (free e1 (fun v n z => ?_) fun z => ?_), r1, r2, r3, r4, r5, r6, r7, r8, hne⟩, ⟨bm, ob, b1, b2, fun q => ?_, fun q => ?_, hidT_get b3 (free b3 (fun v n z => by rw [b6] at z; cases z) fun z => by rw [b6] at z; cases z), b4, b5, b6⟩, ?_⟩
    · rw [r2] at z; cases z
    · rw [r2] at z
      cases z
      simp at r3
    · obtain ⟨oo, es, ep, e, hd, _⟩ := hns
      rw [q, e] at b3
      cases b3
      rw [hd] at b6
      cases b6
    · rw [q, hT p hp] at b3
      cases b3
      cases b6
    · obtain ⟨oo, es, ep, e, hd, _⟩ := hns
      exact gne e hd
  have e0 : Env0 P w K mg (hidT s₁.heap (H0 K cs a { cls := .type "list", data := .seq vs.toArray } ns)) callerA [] s₁ (H0 K cs a { cls := .type "list", data := .seq vs.toArray } ns) :=
    ⟨rfl, md, fun b o e => of_hidT e, Nat.le_of_eq (hidT_size _ _), trivial, fun b hb => absurd (show b ∈ ([] : List Addr) from hb) (by simp), ok, .of_eq hg⟩
  refine codeAny_mono ((F _ kb (nsb hns) TB).run callerA [] s₁ _ ⟨[.ref a], []⟩ [.ref a] [.ref a] _ _ hr rfl e0 (hbind s₁ (.ref a)) (.cons rfl .nil) (hsp _ (fun p hp => H0_tab hp) sq)) fun r s' h => ?_
  cases r with
  | error e => exact False.elim h
  | ok fl =>
    cases fl with
    | next => exact False.elim h
    | brk => exact False.elim h
    | cont => exact False.elim h
    | ret u =>
      obtain ⟨v, H', os, bare, un, ok', r', q⟩ := h
      have q' : v = .bl true := q
      subst q'
      obtain rfl : u = Value.bool true := r'
      have stay : ∀ b o, b ∉ cs.map (·.2) → s₁.heap.get? b = some o → s'.heap.get? b = some o := fun b o nb e => by
        cases q : H0 K cs a { cls := .type "list", data := .seq vs.toArray } ns b with
        | none => exact un.keep b o e q (fun z => absurd (show b ∈ ([] : List Addr) from z) (by simp)) (by simp)
        | some u =>
          rcases H0_cases q with ⟨z, _⟩ | ⟨_, _, rfl⟩
          · exact absurd z nb
          · have z2 := un.frzs b _ _ q
            obtain ⟨e1, _⟩ := ok b _ q
            obtain ⟨e2, _⟩ := ok' b _ z2
            rw [e] at e1; cases e1
            exact e2
      have grown : ∀ p ∈ cs, ∃ more : Array Value, s'.heap.get? p.2 = some { cls := .none, data := .fields more } := fun p hp => by
        obtain ⟨more, z⟩ := un.tbls p.2 #[] (H0_tab hp)
        exact ⟨_, ok' p.2 _ z⟩
      refine ⟨rfl, ⟨fun b o e => ?_, fun b o e => ?_⟩, os, bare⟩
      · by_cases nb : b ∈ cs.map (·.2)
        · obtain ⟨p, hp, ep⟩ := List.mem_map.mp nb
          obtain ⟨more, hm⟩ := grown p hp
          rw [← ep] at e ⊢
          rw [hT p hp] at e
          cases e
          exact .inr (.inl ⟨((C p hp).tab (hT p hp)).isCodeTable, rfl, #[], more, rfl, by rw [Array.empty_append]; exact hm⟩)
        · exact .inl (stay b o nb e)
      · by_cases nb : b ∈ cs.map (·.2)
        · obtain ⟨p, hp, ep⟩ := List.mem_map.mp nb
          obtain ⟨more, hm⟩ := grown p hp
          rw [← ep]
          exact ⟨_, hm⟩
        · exact ⟨o, stay b o nb e⟩
end
end K88
namespace K88
open PySem PySem.Spec PyProof.Rows L2 Evl LamX He
theorem code_of {K : PySem.W.Frag} {x : Str} {i : Nat} {fd : FuncData} (F : FnP K x i (fAd K (x, none)) fd) : fd.code = .ref (codeOf K (x, none)) := by
  obtain ⟨oc, od, dV, kV, doc, pm, an, cdv, ct, osl, rfl, lk, hcd, _, _⟩ := F.ex
  obtain ⟨c, hc⟩ := codeIn_ref hcd
  subst hc
  rw [codeOf_eq (p := (x, none)) lk rfl]
def TT2 (K : PySem.W.Frag) : List (Addr × Str) := [((cT K ("_law_word", none)).2, "_law_word.<locals>.<lambda>"), ((cT K ("law", none)).2, "law.<locals>.<lambda>")]
section
variable {w : World} {K : PySem.W.Frag} {mg : Str → Option Value} {h : Heap}
theorem def_at {x : Str} {i : Nat} {dfs : List DefD} (X : K.In h) (G : h.Ns mainGlobals mg) (c : SaysY facts dfns [] tdef more [iNoText] w h K) (n j : Nat) (hd : dfns[n]? = some (dfn x i) := by rfl) (hf : facts[j]? = some (.glo x) := by rfl) : ∃ fd, DefAt K mg x i (fAd K (x, none)) fd := by
  obtain ⟨fd, F⟩ := c.x.t.d.def_ n (d := dfn x i) hd
  exact ⟨fd, F, glo_ok X G (c.x.t.d.fact j (f := .glo x) hf)⟩
theorem gl8_of (X : K.In h) (G : h.Ns mainGlobals mg) (c : SaysY facts dfns [] tdef more [iNoText] w h K) : Gl8 mg :=
  { isi := free_ok X G (c.x.t.d.fact 5 (f := .free "isinstance") rfl), str := free_ok X G (c.x.t.d.fact 6 (f := .free "str") rfl), all := free_ok X G (c.x.t.d.fact 7 (f := .free "all") rfl), int := free_ok X G (c.x.t.d.fact 8 (f := .free "int") rfl), bool := free_ok X G (c.x.t.d.fact 9 (f := .free "bool") rfl), abs := free_ok X G (c.x.t.d.fact 10 (f := .free "abs") rfl), range := free_ok X G (c.x.t.d.fact 11 (f := .free "range") rfl), tuple := free_ok X G (c.x.t.d.fact 12 (f := .free "tuple") rfl), list := free_ok X G (c.x.t.d.fact 13 (f := .free "list") rfl), len := free_ok X G (c.x.t.d.fact 14 (f := .free "len") rfl), reversed := free_ok X G (c.x.t.d.fact 15 (f := .free "reversed") rfl), enumerate := free_ok X G (c.x.t.d.fact 16 (f := .free "enumerate") rfl), dict := free_ok X G (c.x.t.d.fact 17 (f := .free "dict") rfl), repr := free_ok X G (c.x.t.d.fact 18 (f := .free "repr") rfl), min := free_ok X G (c.x.t.d.fact 19 (f := .free "min") rfl), deep := int_ok X G (c.x.t.d.fact 0 (f := .int "MOST_DEEP" 60) rfl), figs := int_ok X G (c.x.t.d.fact 1 (f := .int "MOST_FIGURES" 12) rfl), number := int_ok X G (c.x.t.d.fact 2 (f := .int "MOST_NUMBER" 1000000000000) rfl), small := str_ok X G (c.x.t.d.fact 3 (f := .str "SMALL" "abcdefghijklmnopqrstuvwxyz") rfl), figures := str_ok X G (c.x.t.d.fact 4 (f := .str "FIGURES" "0123456789") rfl) }
theorem lawF_of (X : K.In h) (G : h.Ns mainGlobals mg) (c : SaysY facts dfns [] tdef more [iNoText] w h K) : (∃ L : LawF R.prog K mg (TT2 K), L.cw = (cT K ("_law_word", none)).1 ∧ L.pw = (cT K ("_law_word", none)).2) ∧ (cT K ("_law_word", none)).2 ≠ (cT K ("law", none)).2 := by
  obtain ⟨d1, F1⟩ := def_at (x := "is_word") (i := 24) (dfs := dfns) X G c 0 25
  obtain ⟨d2, F2⟩ := def_at (x := "is_figure") (i := 25) (dfs := dfns) X G c 1 26
  obtain ⟨d3, F3⟩ := def_at (x := "is_value") (i := 26) (dfs := dfns) X G c 2 27
  obtain ⟨d4, F4⟩ := def_at (x := "value_text") (i := 27) (dfs := dfns) X G c 3 28
  obtain ⟨d5, F5⟩ := def_at (x := "pieces_of") (i := 28) (dfs := dfns) X G c 4 29
  obtain ⟨d6, F6⟩ := def_at (x := "plain_of") (i := 29) (dfs := dfns) X G c 5 30
  obtain ⟨d7, F7⟩ := def_at (x := "value_of") (i := 30) (dfs := dfns) X G c 6 31
  obtain ⟨d8, F8⟩ := def_at (x := "read_value") (i := 31) (dfs := dfns) X G c 7 32
  obtain ⟨db, Fb⟩ := def_at (x := "_law_begun") (i := 33) (dfs := dfns) X G c 8 33
  obtain ⟨dm, Fm⟩ := def_at (x := "_law_mixed") (i := 34) (dfs := dfns) X G c 9 34
  obtain ⟨dd, Fd⟩ := def_at (x := "_law_draw") (i := 35) (dfs := dfns) X G c 10 35
  obtain ⟨dp, Fp⟩ := def_at (x := "_law_pick") (i := 36) (dfs := dfns) X G c 11 36
  obtain ⟨dl, Fl⟩ := def_at (x := "_law_plain") (i := 37) (dfs := dfns) X G c 12 37
  obtain ⟨di, Fi⟩ := def_at (x := "_law_is") (i := 38) (dfs := dfns) X G c 13 38
  obtain ⟨dv, Fv⟩ := def_at (x := "_law_value_text") (i := 39) (dfs := dfns) X G c 14 39
  obtain ⟨dc, Fc⟩ := def_at (x := "_law_caught") (i := 40) (dfs := dfns) X G c 15 40
  obtain ⟨dw, Fw⟩ := def_at (x := "_law_word") (i := 41) (dfs := dfns) X G c 16 41
  obtain ⟨ds, Fs⟩ := def_at (x := "_law_some_value") (i := 42) (dfs := dfns) X G c 17 42
  obtain ⟨dn, Fn⟩ := def_at (x := "_law_nested") (i := 43) (dfs := dfns) X G c 18 43
  have m := c.x.more
  unfold more at m
  obtain ⟨m1, m⟩ := ba m
  obtain ⟨m2, m⟩ := ba m
  obtain ⟨m3, m⟩ := ba m
  obtain ⟨m4, m⟩ := ba m
  obtain ⟨m5, m⟩ := ba m
  obtain ⟨m6, m7⟩ := ba m
  have m3 := of_decide_eq_true m3
  have m4 := of_decide_eq_true m4
  have m5 := of_decide_eq_true m5
  have m6 := of_decide_eq_true m6
  have m7 := of_decide_eq_true m7
  have ei : fnI K ("NoText", some "__init__") = iNoText.val := by
    have e := c.i
    have e2 : [fnI K iNoText.at_] = [iNoText.val] := e
    exact (List.cons.inj e2).1
  have EA : ErrAll R.prog K mg "NoText" "line" (ga K "NoText") (ma K (ga K "NoText") "__init__") :=
    errAll_of X G (c.x.t.d.fact 22 (f := .glo "NoText") rfl) (c.x.t.d.fact 20 (f := .free "super") rfl) (by decide +kernel) m1 ei m2
  refine ⟨⟨{ f1 := _, f2 := _, f3 := _, f4 := _, f5 := _, f6 := _, f7 := _, f8 := _, d1 := d1, d2 := d2, d3 := d3, d4 := d4, d5 := d5, d6 := d6, d7 := d7, d8 := d8, C := ga K "NoText", fI := _, CM := ga K "MakeError", CU := ga K "Used", CT := ga K "TooMany", gb := _, gm := _, gd := _, gp := _, gl := _, gi := _, gv := _, gc := _, gw := _, gs := _, gn := _, db := db, dm := dm, dd := dd, dp := dp, dl := dl, di := di, dv := dv, dc := dc, dw := dw, ds := ds, dn := dn, cw := (cT K ("_law_word", none)).1, pw := (cT K ("_law_word", none)).2, G := gl8_of X G c, D := ⟨F1, F2, F3, F4, F5, F6, F7⟩, rd := F8, beg := Fb, mix := Fm, drw := Fd, pck := Fp, pla := Fl, is_ := Fi, ltx := Fv, cau := Fc, wrd := Fw, som := Fs, nst := Fn, EA := EA, gM := glo_ok X G (c.x.t.d.fact 21 (f := .glo "MakeError") rfl), gU := glo_ok X G (c.x.t.d.fact 23 (f := .glo "Used") rfl), gT := glo_ok X G (c.x.t.d.fact 24 (f := .glo "TooMany") rfl), hM := m6, kU := m3, kT := m4, kN := m5, hcode := code_of Fw.fn, hmT := List.mem_cons_self, hu := ?_ }, rfl, rfl⟩, m7⟩
  intro p hp e
  simp only [TT2, List.mem_cons, List.not_mem_nil, or_false] at hp
  rcases hp with rfl | rfl
  · rfl
  · exact absurd e.symm m7
/-- the law's call at the head's end -/
theorem law_end {mb : Str → Option Value} {a : Addr} {s₁ : Shared} {vs : List Value} {ns : List Int} {fa : Addr} (KX : K.In s₁.heap) (c : SaysY facts dfns [] tdef more [iNoText] w s₁.heap K) (hns : s₁.heap.Ns mainGlobals mg) (hb : s₁.heap.Ns builtinsNs mb) (hbb : ∀ x : Str, x ≠ "__name__" → mb x = bootBuiltins x) (hlim : s₁.heap.NoLimit) (hg : s₁.gens = #[])
    (hbm : ∃ (bm : Addr) (ob : Obj), mg "__builtins__" = some (.ref bm) ∧ bm ≠ builtinsNs ∧ s₁.heap.get? bm = some ob ∧ ob.cls = .type "module" ∧ ob.dict = some builtinsNs ∧ ob.data = .plain)
    (hmg : mg ("law" : Str) = some (.ref fa)) (ha : s₁.heap.get? a = some { cls := .type "list", data := .seq vs.toArray }) (hi : IntsAre vs ns) (hl : ns.length ≤ 63) :
    codeAny (model R.prog w) callerA (.call (.ref fa) ⟨[.ref a], []⟩) (fun r s' => r = .ok (.ret (.bool true)) ∧ OldK s₁.heap s'.heap ∧ s'.os = s₁.os ∧ AllBare s'.gens) s₁ := by
  obtain ⟨⟨L, ecw, epw⟩, nn⟩ := lawF_of KX hns c
  obtain ⟨fd, F⟩ := def_at (x := "law") (i := 44) (dfs := dfns) KX hns c 19 44
  have e := hmg.symm.trans F.g
  cases e
  have hbind : ∀ (s : Shared) (u : Value), BindsTo s fd ⟨[u], []⟩ [("script", u)] := fun s u => F.fn.bindsA (ps := ["script"]) (fun _ _ _ _ _ _ us hl => match us, hl with | [_], _ => rfl) s [u] rfl
  refine end_G (cs := [cT K ("_law_word", none), cT K ("law", none)]) (x := "script") (sp := spLaw K (TT2 K)) (k := 64) (fd := fd) KX hns hb hbb hlim hg (fun p hp => ?_) (fun p hp => ?_) (fun p hp => ?_) hbm ha hi (Nat.le_trans hl (by decide)) ⟨rfl, by decide, by decide⟩ (fun base Kb nb TB => ?_) hbind (fun H hH hS => ?_)
  · simp only [List.mem_cons, List.not_mem_nil, or_false] at hp
    rcases hp with rfl | rfl
    · exact c.x.empty _ (by simp [tdef])
    · exact c.x.empty _ (by simp [tdef])
  · simp only [List.mem_cons, List.not_mem_nil, or_false] at hp
    rcases hp with rfl | rfl
    · exact c.x.out _ (by simp [tdef])
    · exact c.x.out _ (by simp [tdef])
  · simp only [List.mem_cons, List.not_mem_nil, or_false] at hp
    rcases hp with rfl | rfl
    · exact PySem.W.codeHd_of_K KX (c.x.hd _ (by simp [tdef]))
    · exact PySem.W.codeHd_of_K KX (c.x.hd _ (by simp [tdef]))
  · refine ok_law L F.fn ?_ (TB (cT K ("law", none)) (by simp)) (code_of F.fn) (by simp [TT2]) fun p hp e => ?_
    · rw [ecw, epw]
      exact TB (cT K ("_law_word", none)) (by simp)
    · simp only [TT2, List.mem_cons, List.not_mem_nil, or_false] at hp
      rcases hp with rfl | rfl
      · exact absurd e nn
      · rfl
  · refine ⟨a, ns, rfl, hS, hl, fun p hp => ?_, fun _ => rfl⟩
    simp only [TT2, List.mem_cons, List.not_mem_nil, or_false] at hp
    rcases hp with rfl | rfl
    · exact TabS.nil (hH _ (by simp))
    · exact TabS.nil (hH _ (by simp))
end
end K88
open PySem PySem.W PyProof.Rows
theorem PySem.Challenge.cw_makebook_k88_values_written_holds : PySem.Challenge.rw_makebook_k88_values_written.Holds := by
  w_on; o_law
  refine HandSHeadRun.head_any (r := K88.R) (q := view K88.R.prog [44]) (H := K88.hk) (ob := K88.ob) (M := 6000) (loose := K88.loose) (d := HandSHeadRun.topDef K88.R.prog 44) (kwd := []) K88.ob_eq (by kernel_rfl) (fun s => by kernel_rfl) K88.run (by kernel_rfl) (by kernel_rfl) (by kernel_rfl) (by rfl) (by first | assumption | decide +kernel) (by decide +kernel) ⟨rfl, rfl, rfl, rfl, rfl, by decide +kernel⟩ ?hw ?hc
  case hw => w_witness2
  case hc =>
    refine Att.attach_callB (l := PySem.Challenge.rw_makebook_k88_values_written) (n := 63) rfl (by kernel_rfl) fun w s₀ s₁ mg mb fa o pm cd doc a vs ns G Y ho hd hcd hmg hobj hints hlen hbits hg => ?_
    obtain ⟨K, KX, c⟩ := Y
    have hmg2 : mg ("law" : PySem.Str) = some (.ref fa) := by
      have e : (HandSHeadRun.topDef K88.R.prog 44).name = ("law" : PySem.Str) := by kernel_rfl
      rw [← e]
      exact hmg
    exact K88.law_end KX c G.T.g G.T.b G.T.builtins G.T.nolimit hg G.T.bmain hmg2 hobj hints hlen
