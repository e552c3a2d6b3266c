import PyProof.Rows.All
import Wide.All
import OpenK.AllK
import Wide.FinOn
import HandS.ForMost
import KE.KeyNested
import KE.KDictKeyed
import PyProof.Rows.TupDisplay
import KE.KExcInit
import HandS.Exc
import HandS.ExcOwn
import HandS.ExcInit
import HandS.Defaults
import HandS.MakeKwOnly
import HandS.Codes
import HandS.CallSlots
import HandS.IsInst
import KE.KExcIs
import KE.KDictLaws
import HandS.HeadHook4
import HandS.Walk
import HandS.ExcField
import PyProof.ReprRoads
import HandS.Ends
import HandS.HeadEnd
import KE.SortData
import KE.DataCmp
import HandS.Head2
import HandS.Flt
import HandS.Style
import HandS.DictTup
import HandS.DictEq
import PyProof.StrBlock2
import HandS.RaiseMore
import HandS.TryOnly
import HandS.WordsExc
import PySem.Challenge.RW_wanehold_k79_origins_alike_again
set_option Elab.async false
set_option linter.all false
set_option maxRecDepth 100000
set_option maxHeartbeats 4000000
/-! dicts whose keys are nested tuples, over the layer -/
namespace ND
open PySem PySem.Spec PyProof.Rows L2
mutual
/-- v is such a key -/
def NK (H : Hp) : NestedKey → V → Prop
  | .none, v => v = .non
  | .num i, v => v = .int i
  | .text x, v => v = .str x
  | .tup ks, v => ∃ a vs, v = .ref a ∧ H a = some (.tup vs) ∧ NKs H ks vs
def NKs (H : Hp) : List NestedKey → List V → Prop
  | [], vs => vs = []
  | k :: ks, vs => ∃ v r, vs = v :: r ∧ NK H k v ∧ NKs H ks r
end
mutual
theorem NK.mono {H H' : Hp} (s : ∀ a vs, H a = some (.tup vs) → H' a = some (.tup vs)) : ∀ (k : NestedKey) (v : V), NK H k v → NK H' k v
  | .none, v, h => by rw [NK] at h ⊢; exact h
  | .num i, v, h => by rw [NK] at h ⊢; exact h
  | .text x, v, h => by rw [NK] at h ⊢; exact h
  | .tup ks, v, h => by
    rw [NK] at h ⊢
    obtain ⟨a, vs, e, h1, h2⟩ := h
    exact ⟨a, vs, e, s _ _ h1, NKs.mono s ks vs h2⟩
theorem NKs.mono {H H' : Hp} (s : ∀ a vs, H a = some (.tup vs) → H' a = some (.tup vs)) : ∀ (ks : List NestedKey) (vs : List V), NKs H ks vs → NKs H' ks vs
  | [], vs, h => by rw [NKs] at h ⊢; exact h
  | k :: ks, vs, h => by
    rw [NKs] at h ⊢
    obtain ⟨v, r, e, h1, h2⟩ := h
    exact ⟨v, r, e, NK.mono s k v h1, NKs.mono s ks r h2⟩
end
section
variable {P : Program} {w : World} {H : Hp} {h : Heap}
mutual
theorem NK.is (ok : HOk P w H h) : ∀ (k : NestedKey) (v : V) (u : Value), NK H k v → RelV v u → NestedIs h k u
  | .none, v, u, hk, r => by
    rw [NK] at hk; subst hk
    cases r; exact .none
  | .num i, v, u, hk, r => by
    rw [NK] at hk; subst hk
    obtain ⟨t, rfl⟩ := r; exact .int _ _
  | .text x, v, u, hk, r => by
    rw [NK] at hk; subst hk
    obtain ⟨t, rfl⟩ := r; exact .text _ _
  | .tup ks, v, u, hk, r => by
    rw [NK] at hk
    obtain ⟨a, vs, rfl, ha, hs⟩ := hk
    cases r
    obtain ⟨_, its, rv, o, h1, h2, n, h3⟩ := (show ObjOk P w H h a (.tup vs) from ok a _ ha)
    exact .tup h1 h2 h3 (by simpa using NKs.is ok ks vs its hs rv)
theorem NKs.is (ok : HOk P w H h) : ∀ (ks : List NestedKey) (vs : List V) (us : List Value), NKs H ks vs → Vals vs us → NestedAll h ks us
  | [], vs, us, hk, r => by
    rw [NKs] at hk; subst hk
    cases r; exact .nil
  | k :: ks, vs, us, hk, r => by
    rw [NKs] at hk
    obtain ⟨v, q, rfl, h1, h2⟩ := hk
    cases r with
    | cons r1 r2 => exact .cons (NK.is ok k v _ h1 r1) (NKs.is ok ks q _ h2 r2)
end
end
abbrev Ent := NestedKey × Addr × V
def EntR (x : Ent) (y : NestedKey × Addr × Value) : Prop := x.1 = y.1 ∧ x.2.1 = y.2.1 ∧ RelV x.2.2 y.2.2
def ndOk (P : Program) (w : World) (d : Addr) (xs : List Ent) (h : Heap) : Prop := (d == sysModules) = false ∧ xs.length ≤ sizeLine ∧ ∃ ys, Paired EntR xs ys ∧
  ∃ o es ep, h.get? d = some o ∧ o.ExactDict ∧ o.data = .dict es ep ∧ es.toList = ys.map (entryOfKey (nestedKind P w)) ∧ (ys.map (·.1)).Nodup
/-- a dict with nested keys at d -/
def ndO (P : Program) (w : World) (d : Addr) (xs : List Ent) : HO := .ext (ndOk P w d xs)
theorem ndO_ok {P : Program} {w : World} {H : Hp} {h : Heap} {d : Addr} {xs : List Ent} (x : ndOk P w d xs h) : ObjOk P w H h d (ndO P w d xs) := by
  obtain ⟨h1, hz, ys, h2, o, es, ep, h3, h4⟩ := id x
  exact ⟨x, ⟨o, h3⟩, fun a b ⟨q1, qz, ys', q2, o', es', ep', q3, q4⟩ k => ⟨q1, qz, ys', q2, o', es', ep', k _ q3, q4⟩⟩
theorem ndO_at {P : Program} {w : World} {H : Hp} {h : Heap} {d : Addr} {xs : List Ent} (ok : HOk P w H h) (e : H d = some (ndO P w d xs)) : ndOk P w d xs h := by
  have x : ObjOk P w H h d (.ext (ndOk P w d xs)) := ok d _ e
  exact x.1
/-- all its keys stand -/
def Keys (H : Hp) (xs : List Ent) : Prop := ∀ x ∈ xs, NK H x.1 (.ref x.2.1) ∧ x.1.depth ≤ 8
theorem Keys.mono {H H' : Hp} (s : ∀ a vs, H a = some (.tup vs) → H' a = some (.tup vs)) {xs : List Ent} (k : Keys H xs) : Keys H' xs := fun x hx => ⟨NK.mono s _ _ (k x hx).1, (k x hx).2⟩
theorem entR_mem {xs : List Ent} {ys : List (NestedKey × Addr × Value)} (p : Paired EntR xs ys) : ∀ y ∈ ys, ∃ x ∈ xs, EntR x y := by
  induction p with
  | nil => intro y hy; cases hy
  | cons r _ ih =>
    intro y hy
    rcases List.mem_cons.mp hy with e | hy
    · rw [e]; exact ⟨_, List.mem_cons_self .., r⟩
    · obtain ⟨x, hx, q⟩ := ih y hy
      exact ⟨x, List.mem_cons_of_mem _ hx, q⟩
theorem nd_of {P : Program} {w : World} {H : Hp} {h : Heap} {d : Addr} {xs : List Ent} (ok : HOk P w H h) (e : H d = some (ndO P w d xs)) (k : Keys H xs) :
    (d == sysModules) = false ∧ xs.length ≤ sizeLine ∧ ∃ ys, Paired EntR xs ys ∧ h.DictOfH (nestedKind P w) d ys := by
  obtain ⟨h1, hz, ys, h2, o, es, ep, h3, h4, h5, h6, h7⟩ := ndO_at ok e
  refine ⟨h1, hz, ys, h2, o, es, ep, h3, h4, h5, h6, fun y hy => ?_, h7⟩
  obtain ⟨x, hx, e1, e2, _⟩ := entR_mem h2 y hy
  obtain ⟨q1, q2⟩ := k x hx
  rw [← e1, ← e2]
  exact ⟨NK.is ok _ _ _ q1 rfl, q2⟩
def getN (xs : List Ent) (k : NestedKey) : Option (Addr × V) := (xs.find? fun x => decide (x.1 = k)).map (·.2)
theorem getN_rel {xs : List Ent} {ys : List (NestedKey × Addr × Value)} (p : Paired EntR xs ys) (k : NestedKey) : (getN xs k = none ∧ atKey ys k = none) ∨ ∃ a v u, getN xs k = some (a, v) ∧ atKey ys k = some (a, u) ∧ RelV v u := by
  induction p with
  | nil => exact .inl ⟨rfl, rfl⟩
  | @cons x y l m r _ ih =>
    obtain ⟨e1, e2, r3⟩ := r
    by_cases h : x.1 = k
    · refine .inr ⟨x.2.1, x.2.2, y.2.2, ?_, ?_, r3⟩
      · unfold getN; rw [List.find?_cons_of_pos (by simpa using h)]; rfl
      · unfold atKey; rw [List.find?_cons_of_pos (by simpa [← e1] using h), e2]; rfl
    · have a1 : getN (x :: l) k = getN l k := by unfold getN; rw [List.find?_cons_of_neg (by simpa using h)]
      have a2 : atKey (y :: m) k = atKey m k := by unfold atKey; rw [List.find?_cons_of_neg (by simpa [← e1] using h)]
      rw [a1, a2]
      exact ih
theorem getN_isSome {xs : List Ent} {ys : List (NestedKey × Addr × Value)} (p : Paired EntR xs ys) (k : NestedKey) : (atKey ys k).isSome = (getN xs k).isSome := by
  rcases getN_rel p k with ⟨h1, h2⟩ | ⟨a, v, u, h1, h2, _⟩ <;> rw [h1, h2] <;> rfl
theorem getN_none {xs : List Ent} {k : NestedKey} : getN xs k = none ↔ ∀ x ∈ xs, x.1 ≠ k := by
  unfold getN
  rw [Option.map_eq_none_iff, List.find?_eq_none]
  constructor
  · intro h x hx e; exact h x hx (by simpa using e)
  · intro h x hx e; exact h x hx (by simpa using e)
section
variable {X : Cx} {pins : List (Addr × Obj)} {σ : L2.St} {H : Hp} {s : Shared} {d p : Addr} {k : NestedKey} {xs : List Ent} {A : Around} {E : Value → Shared → Prop}
theorem room8 {j : Nat} (hr : Room j A) : (nestedKind X.prog X.w).room A.in1 := by
  have := hr.units
  show A.in1.units + 8 < cLine
  have e : A.in1.units = A.units + 1 := rfl
  omega
/-- y in d, y not in d -/
def tNIn (P : Program) (w : World) (neg : Bool) (ty td : TE) : TE := fun σ H Q => ty σ H fun y H1 => td σ H1 fun x H2 => ∃ d p k xs, x = .ref d ∧ y = .ref p ∧ H2 d = some (ndO P w d xs) ∧ Keys H2 xs ∧ NK H2 k (.ref p) ∧ k.depth ≤ 8 ∧
  Q (.bl (if neg then !(getN xs k).isSome else (getN xs k).isSome)) H2
variable {i o value : Expr} {ty td tv : TE} {pos pos' : Pos} {j : Nat}
theorem pc_nin (hr : Room j X.A) (hi : PE X i ty) (ho : PE X o td) : PC X .In i o (tNIn X.prog X.w false ty td) := by
  refine ⟨fun pins s σ H Q I h => ?_⟩
  refine thn (hi.run pins s σ H _ I h) fun iv s1 ⟨y, H1, I1, ry, q1⟩ => thn (ho.run pins s1 σ H1 _ I1 q1) fun u s2 ⟨x, H2, I2, rx, d, p, k, xs, ex, ey, e, ks, hk, hd, q2⟩ => ?_
  subst ex ey
  obtain rfl : u = Value.ref d := rx
  obtain rfl : iv = Value.ref p := ry
  obtain ⟨h1, hz, ys, pr, dd⟩ := nd_of I2.hok e ks
  refine wpAny_in_heap (knd := nestedKind X.prog X.w) (k := k) (room8 hr) ⟨NK.is I2.hok _ _ _ hk rfl, hd⟩ h1 dd ?_
  rw [getN_isSome pr]
  exact ⟨.bl _, H2, I2.tok _, rfl, q2⟩
theorem pc_nnotin (hr : Room j X.A) (hi : PE X i ty) (ho : PE X o td) : PC X .NotIn i o (tNIn X.prog X.w true ty td) := by
  refine ⟨fun pins s σ H Q I h => ?_⟩
  refine thn (hi.run pins s σ H _ I h) fun iv s1 ⟨y, H1, I1, ry, q1⟩ => thn (ho.run pins s1 σ H1 _ I1 q1) fun u s2 ⟨x, H2, I2, rx, d, p, k, xs, ex, ey, e, ks, hk, hd, q2⟩ => ?_
  subst ex ey
  obtain rfl : u = Value.ref d := rx
  obtain rfl : iv = Value.ref p := ry
  obtain ⟨h1, hz, ys, pr, dd⟩ := nd_of I2.hok e ks
  refine wpAny_notIn_heap (knd := nestedKind X.prog X.w) (k := k) (room8 hr) ⟨NK.is I2.hok _ _ _ hk rfl, hd⟩ h1 dd ?_
  rw [getN_isSome pr]
  exact ⟨.bl _, H2, I2.tok _, rfl, q2⟩
/-- d[y] -/
def tNGet (P : Program) (w : World) (td ty : TE) : TE := fun σ H Q => td σ H fun x H1 => ty σ H1 fun y H2 => ∃ d p k xs a v, x = .ref d ∧ y = .ref p ∧ H2 d = some (ndO P w d xs) ∧ Keys H2 xs ∧ NK H2 k (.ref p) ∧ k.depth ≤ 8 ∧ getN xs k = some (a, v) ∧ Q v H2
theorem pe_nget (hr : Room j X.A) (ho : PE X o td) (hi : PE X i ty) (hs : NoSl i) : PE X (.Subscript o i pos) (tNGet X.prog X.w td ty) := by
  refine ⟨fun pins s σ H Q I h => ?_⟩
  refine subD_of PySem.F.slot_dict_getitem.lookup hs (thn (ho.run pins s σ H _ I h) fun u s1 ⟨x, H1, I1, rx, q1⟩ => thn (hi.run pins s1 σ H1 _ I1 q1) fun iv s2 ⟨y, H2, I2, ry, d, p, k, xs, a, v, ex, ey, e, ks, hk, hd, hg, q2⟩ => ?_)
  subst ex ey
  obtain rfl : u = Value.ref d := rx
  obtain rfl : iv = Value.ref p := ry
  obtain ⟨h1, hz, ys, pr, dd⟩ := nd_of I2.hok e ks
  refine ⟨dd.typeIs, ?_⟩
  rcases getN_rel pr k with ⟨g1, _⟩ | ⟨a', v', u', g1, g2, g3⟩
  · rw [g1] at hg; cases hg
  · rw [g1] at hg; cases hg
    exact wpAny_getItem_heap (knd := nestedKind X.prog X.w) (k := k) (room8 hr) ⟨NK.is I2.hok _ _ _ hk rfl, hd⟩ dd g2 ⟨v, H2, I2.tok _, g3, q2⟩
/-- d[y] = v, y a new key -/
def sNPut (P : Program) (w : World) (td ty tv : TE) : TS := fun D σ H => tv σ H fun v H1 => td σ H1 fun x H2 => ty σ H2 fun y H3 => ∃ d p k xs, x = .ref d ∧ y = .ref p ∧ H3 d = some (ndO P w d xs) ∧ Keys H3 xs ∧ NK H3 k (.ref p) ∧ k.depth ≤ 8 ∧
  xs.length < sizeLine ∧ getN xs k = none ∧ D.nx σ (upd H3 d (ndO P w d (xs ++ [(k, p, v)])))
theorem paired_app {α β : Type} {F : α → β → Prop} : ∀ {a : List α} {b : List β} {c : List α} {d : List β}, Paired F a b → Paired F c d → Paired F (a ++ c) (b ++ d)
  | _, _, _, _, .nil, q => q
  | _, _, _, _, .cons r t, q => .cons r (paired_app t q)
theorem ps_nput (hr : Room j X.A) (ho : PE X o td) (hi : PE X i ty) (hv : PE X value tv) (hs : swapsWith value (some (.Subscript o i pos')) pos.line X.env = pure false := by rfl) :
    PS X (.Assign [.Subscript o i pos'] value pos) (sNPut X.prog X.w td ty tv) := by
  refine ⟨fun pins s σ H D I h => ?_⟩
  refine wpAny_Assign_Subscript (thn (hv.run pins s σ H _ I h) fun r s1 ⟨v, H1, I1, rv, q1⟩ => thn (ho.run pins s1 σ H1 _ I1 q1) fun u s2 ⟨x, H2, I2, rx, q2⟩ => thn (hi.run pins s2 σ H2 _ I2 q2) fun iv s3 ⟨y, H3, I3, ry, d, p, k, xs, ex, ey, e, ks, hk, hd, hl, hg, q3⟩ => ?_) hs
  subst ex ey
  obtain rfl : u = Value.ref d := rx
  obtain rfl : iv = Value.ref p := ry
  obtain ⟨h1, hz, ys, pr, dd⟩ := nd_of I3.hok e ks
  have hn : atKey ys k = none := by
    rcases getN_rel pr k with ⟨_, g2⟩ | ⟨_, _, _, g1, _⟩
    · exact g2
    · rw [g1] at hg; cases hg
  refine wpAny_setItem_heap (hsz := by rw [← Paired.length pr]; exact hz) (knd := nestedKind X.prog X.w) (k := k) (room8 hr) ⟨NK.is I3.hok _ _ _ hk rfl, hd⟩ dd fun h' dd' hs => ?_
  obtain ⟨q, es, ep, a1, a2, a3, a4, _, a5⟩ := dd'
  rw [storedH_new hn] at a4 a5
  have nd : ndOk X.prog X.w d (xs ++ [(k, p, v)]) h' := ⟨h1, by rw [List.length_append, List.length_singleton]; omega, _, paired_app pr (.cons ⟨rfl, rfl, rv⟩ .nil), q, es, ep, a1, a2, a3, a4, a5⟩
  exact ⟨σ, _, d_write I3 (by rw [e]; exact True.intro) hs ⟨q, a1⟩ (ndO_ok nd), q3⟩
/-- {k: v}, one pair -/
def tNOne (P : Program) (w : World) (tk tv : TE) : TE := fun σ H Q => ∀ d, H d = none → tk σ (upd H d (ndO P w d [])) fun y H1 => tv σ H1 fun v H2 => H2 d = some (ndO P w d []) ∧ ∃ p k, y = .ref p ∧ NK H2 k (.ref p) ∧ k.depth ≤ 8 ∧ Q (.ref d) (upd H2 d (ndO P w d [(k, p, v)]))
theorem nd_empty {P : Program} {w : World} (h : Heap) (hb : sysModules < h.objs.size) : ndOk P w h.objs.size [] (h.push { cls := .type "dict", data := .dict #[] }) :=
  ⟨beq_eq_false_iff_ne.mpr (Ne.symm (Nat.ne_of_lt hb)), Nat.zero_le _, [], .nil, _, #[], 0, Heap.get?_push_size _ rfl, ⟨rfl, rfl, rfl⟩, rfl, rfl, List.nodup_nil⟩
theorem pe_none {k v : Expr} {tk tv' : TE} (hr : Room j X.A) (hk : PE X k tk) (hv : PE X v tv') : PE X (.Dict [some k] [v] pos) (tNOne X.prog X.w tk tv') := by
  refine ⟨fun pins s σ H Q I q => ?_⟩
  have hn := I.hok.fresh (Nat.le_refl s.heap.objs.size)
  have I1 := I.laid (a := s.heap.objs.size) (o := ndO X.prog X.w s.heap.objs.size []) (h' := s.heap.push { cls := .type "dict", data := .dict #[] }) (t' := s.toks) (fun _ _ q => Heap.get?_push_of_some _ q) (Nat.le_refl _) (ndO_ok (nd_empty s.heap I.big))
  refine wpAny_Dict_any (by rfl) rfl (by simp) (by simp) ?_
  refine pairTrees_cons_walk (thn (hk.run pins _ σ _ _ I1 (q _ hn)) fun u s1 ⟨y, H1, I2, ry, q1⟩ => thn (hv.run pins s1 σ H1 _ I2 q1) fun w2 s2 ⟨v', H2, I3, rv, e, p, kk, ey, nk, nd, q2⟩ => pairTrees_nil_walk ?_)
  subst ey
  obtain rfl : u = Value.ref p := ry
  obtain ⟨h1, hz, ys, pr, dd⟩ := nd_of I3.hok e (fun x hx => by cases hx)
  cases pr
  show wpAny _ _ (storeAll _ [(Value.ref p, w2)]) _ _ _
  unfold storeAll
  rw [List.forIn_cons]
  have hu : X.A.units + 8 < cLine := by have := hr.units; omega
  refine wpAny_bind (wpAny_bind (wpAny_dictSet_heap (hsz := Nat.zero_le _) (knd := nestedKind X.prog X.w) (k := kk) hu ⟨NK.is I3.hok _ _ _ nk rfl, nd⟩ dd fun h' dd' hs => wpAny_pure ?_))
  show wpAny _ _ (pure PUnit.unit : Sem PUnit) _ _ _
  refine wpAny_pure ?_
  obtain ⟨q0, es, ep, a1, a2, a3, a4, _, a5⟩ := dd'
  rw [storedH_new rfl] at a4 a5
  have nd' : ndOk X.prog X.w s.heap.objs.size [(kk, p, v')] h' := ⟨h1, by rw [sizeLine_eq, List.length_singleton]; decide, _, .cons ⟨rfl, rfl, rv⟩ .nil, q0, es, ep, a1, a2, a3, a4, a5⟩
  exact ⟨.ref s.heap.objs.size, _, d_write I3 (by rw [e]; exact True.intro) hs ⟨q0, a1⟩ (ndO_ok nd'), rfl, q2⟩
end
/-- xs[i], by values, i from 0 on: for xs[i] += e -/
theorem get_list {X : Cx} : PGet X (fun x y H Q => ∃ p xs i v, x = .ref p ∧ y = .int i ∧ 0 ≤ i ∧ SqL X.K H p xs ∧ xs[i.toNat]? = some v ∧ Q v H) := by
  intro pins s σ H o i ov iv Q I ro ri h
  obtain ⟨p, xs, k, v, rfl, rfl, h0, hq, he, q⟩ := h
  cases ro
  obtain ⟨t, rfl⟩ := ri
  obtain ⟨its, r, pl, hz⟩ := I.list hq
  obtain ⟨u, eu, ru⟩ := r.get he
  have hl := r.length
  have hn := line63
  have hlt := (List.getElem?_eq_some_iff.mp he).1
  exact wpAny_getItem_list pl.isList h0 (by omega) (by simpa using eu) ⟨v, H, I, ru, q⟩
end ND

set_option maxHeartbeats 4000000
/-! exceptions whose __init__ says the base's and stores one field -/
namespace EX
open PySem PySem.Spec PyProof.Rows L2
/-! ### a look at the class -/
def oexB (K : PySem.W.Frag) (C : Addr) : Bool := (match K.lookup C with
  | some ⟨.type t, _, .cls cd, sl⟩ => (match cd.mro, sl.toList with
    | .ref C' :: bm, [_, _, _, _, some (.builtin n), _] => t == "type" && (C' == C && (n == "ValueError.__new__" && (!cd.hasDel && (cd.hasDict && PySem.HandSPX.refsVE bm))))
    | _, _ => false)
  | _ => false) && (decide (PySem.W.findIn K (.ref C) "__setattr__" = some (some (.builtin "object.__setattr__"))) && (decide (PySem.W.subIn K (.ref C) (.type "BaseException") = some true) &&
    (decide (PySem.W.typeIn K (.ref C) = some (.type "type")) && PySem.W.keepIn K (.ref C))))
theorem oex_of {K : PySem.W.Frag} {C : Addr} (q : oexB K C = true) : OexC K C := by
  unfold oexB at q
  simp only [Bool.and_eq_true, decide_eq_true_eq] at q
  obtain ⟨q, q2, q3, q4, q5⟩ := q
  refine ⟨?_, q2, q3, q4, q5⟩
  split at q
  · rename_i t dd cd sl ho
    split at q
    · rename_i C' bm k0 k1 k2 k3 n k5 hm hs
      simp only [Bool.and_eq_true, beq_iff_eq, Bool.not_eq_true'] at q
      obtain ⟨rfl, rfl, rfl, hdel, hdc, ht⟩ := q
      obtain ⟨nm, bs, mro, ns, qn, hd, sn, sub, ab, col, del⟩ := cd
      dsimp only at hm hdel hdc
      subst hm hdel hdc
      have hsl : sl = #[k0, k1, k2, k3, some (.builtin "ValueError.__new__"), k5] := by
        obtain ⟨l⟩ := sl
        simp only at hs
        rw [hs]
      subst hsl
      exact ⟨nm, qn, ns, bs, bm, sn, sub, ab, col, dd, k0, k1, k2, k3, k5, ho, ht⟩
    · cases q
  · cases q
/-- the base class's __init__, found by the class's own name -/
def binB (K : PySem.W.Frag) (C : Addr) : Bool := decide (PySem.W.specialIn K (.ref C) "__getattribute__" = some (some (.builtin "type.__getattribute__"))) && (PySem.W.readsIn K C (.type "type") &&
  (match PySem.W.findCls K (.ref C) (.type "type") "__init__" with
  | some (.val (.builtin n)) => n == "ValueError.__init__"
  | _ => false))
theorem bin_of {K : PySem.W.Frag} {C : Addr} (q : binB K C = true) : PySem.W.specialIn K (.ref C) "__getattribute__" = some (some (.builtin "type.__getattribute__")) ∧ PySem.W.readsIn K C (.type "type") = true ∧
    PySem.W.findCls K (.ref C) (.type "type") "__init__" = some (.val (.builtin "ValueError.__init__")) := by
  unfold binB at q
  simp only [Bool.and_eq_true, decide_eq_true_eq] at q
  obtain ⟨q1, q2, q3⟩ := q
  refine ⟨q1, q2, ?_⟩
  split at q3
  · rename_i n e
    rw [beq_iff_eq.mp q3] at e
    exact e
  · cases q3
section
variable {X : Cx} {o e : Expr} {es : List Expr} {to te : TE} {ta : TA} {p p' p1 p2 pos : Pos}
/-- Base.__init__(self, ..), Base an own class over ValueError without an own __init__ -/
theorem pe_binit {pl : Sem Bool} {x : Str} {B : Addr} (hg : Gl X x) (hm : X.mg x = some (.ref B)) (q : binB X.K B = true) (ha : PA X (e :: es) ta)
    (hc : eval (.Call (.Attribute (.Name x p1) "__init__" p2) (e :: es) [] pos) X.env = (do
      let ov ← eval (.Name x p1) X.env
      standAt p2.atName
      let (f, first) ← holding [ov] (getMethod ov "__init__" pl)
      callWith pos f first (backTo pos (starEach (e :: es) X.env)) (backToKw pos (keywordEach [] X.env))) := by rfl)
    (hd : (x == ("__debug__" : Str)) = false := by decide)
    (he : starEach (e :: es) X.env = (false, eval e X.env) :: starEach es X.env := by rfl) (hpl : (backTo pos (starEach es X.env)).any (·.1) = false := by rfl) :
    PE X (.Call (.Attribute (.Name x p1) "__init__" p2) (e :: es) [] pos) (tVeI X.K ta) := by
  refine ⟨fun pins s σ H Q I h => ?_⟩
  obtain ⟨b1, b2, b3⟩ := bin_of q
  refine PySem.W.methodCall_KW (ld_glob I hg hm ?_ hd) hc
  refine PySem.W.method_cls I.kIn b1 (PySem.W.cls_value I.kIn b2 b3 (by decide +kernel) ?_)
  show wpAny _ _ (callWith pos (Value.builtin "ValueError.__init__") [] (backTo pos (starEach (e :: es) X.env)) []) _ _ _
  refine PyProof.Rows.callWith_method1 (thn (ha.run pos pins _ σ H _ (I.tok _) h) fun us s1 ⟨vs, H1, I1, r1, a, C, ws, ev, hl, T, ea, q⟩ => ?_) he hpl
  subst ev
  cases r1 with
  | @cons _ u0 _ ur ra rw' =>
    obtain rfl : u0 = Value.ref a := ra
    have hlen : ur.length ≤ sizeLine := by
      rw [← Paired.length rw', sizeLine_eq]
      omega
    exact oinit_ok T I1 ea hlen fun s' J => ⟨.non, H1, J, rfl, q⟩
end
/-- __init__(self, v) of such a class: self.f = v -/
def spX (C : Addr) (f : Str) : Sp := fun vs H Q _ => ∃ a v, vs = [.ref a, v] ∧ H a = some (exo a C none) ∧ ∀ dx, H dx = none → dx ≠ a → Q .non (upd (upd H dx (exd dx [(f, v)])) a (exo a C (some dx)))
theorem mkO_use {C : Addr} {f : Str} {Q : XK} {H1 : Hp} {v : V} (q : ∀ d H', Same H1 H' → H' d = some (.xd [(f, v)]) → H1 d = none → Q (.ref C) (some d) H') :
    [v].length ≤ 1000 ∧ ∀ a, H1 a = none → spX C f (.ref a :: ([v] ++ [])) (upd H1 a (exo a C none))
      (fun v H2 => v = .non ∧ ∃ (d : Addr) (fs : List (Str × V)), H2 a = some (exo a C (some d)) ∧ H2 d = some (exd d fs) ∧ H1 d = none ∧ Q (.ref C) (some d) (upd (del H2 a) d (.xd fs))) (fun _ _ _ => False) := by
  refine ⟨by show 1 ≤ 1000; decide, fun a na => ⟨a, v, rfl, upd_same, fun dx nd ne => ⟨rfl, dx, [(f, v)], upd_same, by rw [upd_ne ne, upd_same], by rw [upd_ne ne] at nd; exact nd, q dx _ (fun b o hb => ?_) upd_same (by rw [upd_ne ne] at nd; exact nd)⟩⟩⟩
  have nd' : H1 dx = none := by rw [upd_ne ne] at nd; exact nd
  have b1 : b ≠ a := ne_of_none hb na
  have b2 : b ≠ dx := ne_of_none hb nd'
  rw [upd_ne b2, del_ne b1, upd_ne b1, upd_ne b2, upd_ne b1]
  exact hb
/-! ### a call with keywords, what is raised wished for at the caller's slots -/
def tCallNS (n m : Nat) (sp : Sp) (gV : List V → List V → List V) (E : L2.St → XK) (t tk : TA) : TE := fun σ H Q => t σ H fun vs H1 => tk σ H1 fun zs H2 => vs.length = n ∧ zs.length = m ∧ sp (gV vs zs) H2 Q (E σ)
section
variable {X : Cx} {CX : CXT} {k n : Nat} {f : Addr} {fd : FuncData} {ps ks : List Str} {sp : Sp} {E : L2.St → XK} {x : Str} {p pos : Pos} {e : Expr} {es : List Expr} {kws : List Keyword} {t tk : TA} {g : List Value → List Value → List Value} {gV : List V → List V → List V}
theorem pe_callNS (F : FnOk X.prog X.w X.K X.mg X.base CX k f fd ps sp) (hr : Room k X.A) (hg : Gl X x) (hm : X.mg x = some (.ref f)) (hk : PySem.W.keepIn X.K (.ref f) = true) (hb : KBn X.K fd ps n ks g gV) (hx : ∀ σ, PassesAt CX X σ (E σ))
    (ha : PA X (e :: es) t) (hkw : PK X kws tk) (hall : (backToKw pos (keywordEach kws X.env)).all (·.1.isSome) = true := by rfl) (hks : (backToKw pos (keywordEach kws X.env)).filterMap (·.1) = ks := by rfl)
    (hdb : (x == ("__debug__" : Str)) = false := by decide) (he : starEach (e :: es) X.env = (false, eval e X.env) :: starEach es X.env := by rfl)
    (hpl : ((backTo pos (starEach (e :: es) X.env)).any (·.1) || (backToKw pos (keywordEach kws X.env)).any (·.1.isNone)) = false := by rfl) :
    PE X (.Call (.Name x p) (e :: es) kws pos) (tCallNS n ks.length sp gV E t tk) := by
  refine ⟨fun pins s σ H Q I h => ?_⟩
  refine wpAny_Call_Name_kw (ld_glob I hg hm ?_ hdb)
  refine PySem.W.callWith_KW (h₀ := X.base) I.ok.mod.kin hk hall (thn (ha.run pos pins s σ H _ I h) fun us s1 ⟨vs, H1, I1, r, q⟩ => ?_) hpl he
  refine thn (hkw.run pos pins s1 σ H1 _ I1 q) fun ws s2 ⟨zs, H2, I2, rz, l1, l2, q2⟩ => ⟨I2.kIn, ?_⟩
  rw [hks]
  have r2 := hb.rel r rz
  refine wpAny_call (codeAny_mono (F.run X.A X.stack s2 H2 ⟨us, ks.zip ws⟩ (g us ws) (gV vs zs) Q (E σ) hr I2.env0 (hb.to s2 us ws I2.kIn (r.length.symm.trans l1) (rz.length.symm.trans l2)) r2 q2) fun r s' hq => ?_)
  cases r with
  | error e => exact hx σ pins H2 s2 e s' I2 hq
  | ok fl =>
    cases fl with
    | ret u => exact I2.after hq
    | next => exact False.elim hq
    | brk => exact False.elim hq
    | cont => exact False.elim hq
end
end EX
namespace EX
open PySem PySem.Spec PyProof.Rows L2
section
variable {X : Cx} {o e : Expr} {es : List Expr} {ta : TA} {p pos : Pos} {x f : Str} {C fI : Addr} {k j : Nat} {ps : List Str}
/-- X(e), the class's __init__ by its promise -/
theorem pmk_f (T : OexC X.K C) (i : PySem.W.findIn X.K (.ref C) "__init__" = some (some (.ref fI)) ∧ PySem.W.typeIn X.K (.ref fI) = some (.type "function") ∧ PySem.W.exmOne X.K (.ref C) (.ref C) = some true)
    (c : ∃ fd, FnOk X.prog X.w X.K X.mg X.base C8.CX0 k fI fd ps (spX C f) ∧ Binds X.K fd ps []) (hr : Room j X.A) (hk : k + 1 ≤ j) (hg : Gl X x) (hm : X.mg x = some (.ref C)) (ha : PA X (e :: es) ta)
    (hdb : (x == ("__debug__" : Str)) = false := by decide) (he : starEach (e :: es) X.env = (false, eval e X.env) :: starEach es X.env := by rfl) (hpl : (backTo pos (starEach es X.env)).any (·.1) = false := by rfl) :
    PMk X (.Call (.Name x p) (e :: es) [] pos) (tMkO C (spX C f) [] ta) := by
  obtain ⟨fd, F, b⟩ := c
  exact pmk_oex T i.1 i.2.1 F (hr.mono hk) b .nil C8.pass0 hg hm ha hdb he hpl
end
end EX

set_option maxHeartbeats 4000000
/-! exceptions without a field; isinstance of a held error with a dict; methods that may raise; setdefault of dicts by flat tuples -/
namespace EI
open PySem PySem.Spec PyProof.Rows L2
/-! ### C() whose __init__ stores nothing -/
section
variable {X : Cx} {x : Str} {C fI : Addr} {k j : Nat} {fd : FuncData} {ps : List Str} {sp : Sp} {p pos : Pos}
theorem bare_end {pins : List (Addr × Obj)} {σ : L2.St} {H1 H2 : Hp} {hp hp2 h2 : Heap} {g1 g2 : Array GenState} {d1 d2 : Drawn} {t1 t2 : Nat} {os1 os2 : OsState} {a C : Addr} (J1 : Inv X pins σ H1 ⟨hp, g1, d1, t1, os1⟩) (ha : hp.objs.size ≤ a)
    (kk : ∀ b o, hp.get? b = some o → hp2.get? b = some o) (U : Un (frs X.stack) [] (upd H1 a (exo a C none)) H2 hp2 h2) (hok : HOk X.prog X.w H2 h2) (ho : os2 = os1) (hb : AllBare g2) (ea : H2 a = some (exo a C none)) :
    ∃ (t0 : Addr) (G : Heap), Inv X pins σ (del H2 a) ⟨G, g2, d2, t2, os2⟩ ∧ (∀ b o, G.get? b = some o → h2.get? b = some o) ∧ G.get? a = none ∧
      h2.get? a = some ({ cls := .ref C, dict := none, data := .fields #[.ref t0, .none, .none, .none, .bool false, .none] } : Obj) := by
  obtain ⟨t0, hoe⟩ := exo_at hok ea
  have hn : H1 a = none := J1.hok.fresh ha
  obtain ⟨G, ga, gb⟩ := restrict h2 fun b => decide (b ≠ a)
  have same : ∀ b, b ≠ a → G.get? b = h2.get? b := fun b q => ga b (decide_eq_true q)
  have gone : G.get? a = none := gb a (by simp)
  have ne : ∀ {b : Addr} {o : Obj}, hp.get? b = some o → b ≠ a := fun z => Nat.ne_of_lt (Nat.lt_of_lt_of_le (Heap.lt_size z) ha)
  have fr : ∀ {b : Addr}, b ≠ a → H1 b = none → upd H1 a (exo a C none) b = none := fun q n => (upd_ne q).trans n
  have V : Un (frs X.stack) [] H1 (del H2 a) hp G := by
    refine { keep := fun b o z n u v => ?_, slot := fun b o z n u v => ?_, free := fun b o z n v => ?_, there := fun b o z v => ?_, tups := fun b xs z => ?_, frzs := fun b o v z => ?_, tbls := fun b qs z => ?_ }
    · rw [same b (ne z)]; exact U.keep b o (kk b o z) (fr (ne z) n) u v
    · rw [same b (ne z)]; exact U.slot b o (kk b o z) (fr (ne z) n) u v
    · rw [del_ne (ne z)]; exact U.free b o (kk b o z) (fr (ne z) n) v
    · rw [same b (ne z)]; exact U.there b o (kk b o z) v
    · rw [del_ne (ne_of_none z hn)]; exact U.tups b xs ((upd_ne (ne_of_none z hn)).trans z)
    · rw [del_ne (ne_of_none z hn)]; exact U.frzs b o v ((upd_ne (ne_of_none z hn)).trans z)
    · rw [del_ne (ne_of_none z hn)]; exact U.tbls b qs ((upd_ne (ne_of_none z hn)).trans z)
  have okG : HOk X.prog X.w (del H2 a) G := by
    intro b o z
    have ba : b ≠ a := fun e => by
      rw [e, del_same] at z; cases z
    rw [del_ne ba] at z
    have own : ∀ {c : Addr}, H2 c = some (.own b) → c ≠ a := fun hc => at_ne ea hc exo_own
    refine (hok b o z).stay (fun c v hc y => ?_) (fun c hc => ?_) fun c xs hc => ?_
    · have ca : c ≠ a := hc.elim (fun e => by rw [e]; exact ba) own
      rw [same c ca]; exact y
    · rw [del_ne (own hc)]; exact hc
    · rw [del_ne (at_ne ea hc exo_tup)]; exact hc
  refine ⟨t0, G, J1.call' (ch := []) ho V okG hb (fun b z => absurd z (by simp)), fun b o z => ?_, gone, hoe⟩
  by_cases ba : b = a
  · rw [ba, gone] at z; cases z
  · exact (same b ba).symm.trans z
def tMkN (C : Addr) (sp : Sp) : L2.St → Hp → XK → Prop := fun _ H Q => ∀ a, H a = none → sp [.ref a] (upd H a (exo a C none)) (fun v H2 => v = .non ∧ H2 a = some (exo a C none) ∧ Q (.ref C) none (del H2 a)) (fun _ _ _ => False)
theorem pmk_n (T : OexC X.K C) (i : PySem.W.findIn X.K (.ref C) "__init__" = some (some (.ref fI)) ∧ PySem.W.typeIn X.K (.ref fI) = some (.type "function") ∧ PySem.W.exmOne X.K (.ref C) (.ref C) = some true)
    (c : ∃ fd, FnOk X.prog X.w X.K X.mg X.base C8.CX0 k fI fd ps sp ∧ Binds X.K fd ps []) (hr : Room j X.A) (hk : k + 1 ≤ j) (hg : Gl X x) (hm : X.mg x = some (.ref C)) (hdb : (x == ("__debug__" : Str)) = false := by decide) :
    PMk X (.Call (.Name x p) [] [] pos) (tMkN C sp) := by
  obtain ⟨fd, F1, b⟩ := c
  have hr := hr.mono hk
  intro pins s σ H Q I h
  obtain ⟨nm, q, N, bs, bm, sn, sub, ab, col, dd, k0, k1, k2, k3, k5, hC, hbm⟩ := T.cls
  refine wpAny_Call_Name_kw (ld_glob I hg hm ?_ hdb)
  refine PySem.W.callWith_K0 I.kIn T.kC ?_
  obtain ⟨hp, g, dr, tk, os⟩ := s
  have z1 : hp.objs.size ≤ hp.objs.size + 1 := Nat.le_succ _
  have hq := h (hp.objs.size + 1) (I.hok.fresh z1)
  have keep2 : ∀ b o, hp.get? b = some o → ((hp.push (PySem.W.kdv_tup [])).push (PySem.HandSPX.excO C hp.objs.size)).get? b = some o := fun b o e => Heap.get?_push_of_some _ (Heap.get?_push_of_some _ e)
  have at2 : ((hp.push (PySem.W.kdv_tup [])).push (PySem.HandSPX.excO C hp.objs.size)).get? (hp.objs.size + 1) = some (PySem.HandSPX.excO C hp.objs.size) := by heap_get
  have I2 := I.laid (t' := tk) (a := hp.objs.size + 1) (o := exo (hp.objs.size + 1) C none) keep2 z1 (exo_ok at2)
  have r2 : Vals [V.ref (hp.objs.size + 1)] [Value.ref (hp.objs.size + 1)] := .cons rfl .nil
  have hl : ([Value.ref (hp.objs.size + 1)] ++ []).length = ps.length := by
    have e := r2.length
    rw [F1.len _ _ _ _ hq] at e; exact e.symm
  refine wpAny_call (PySem.HandSPX.call_own F.excBase_ValueError (fun Y => PySem.HandSPX.refsVE_contains Y bm hbm) (I.kIn _ _ hC) (PySem.W.looks_findIn I.kIn i.1) (fun self => PySem.W.bind_fn I.kIn self i.2.1) (rest := []) (Nat.zero_le _)
    (codeAny_mono (F1.run _ X.stack _ _ ⟨[Value.ref (hp.objs.size + 1)], []⟩ [Value.ref (hp.objs.size + 1)] _ _ (fun _ _ _ => False) (hr.make C [] []) (I2.env0.make C [] []) (b _ [Value.ref (hp.objs.size + 1)] I2.kIn hl) r2 hq) fun r s' hq' => ?_))
  match r, hq' with
  | .error er, hq' => exact C8.pass0 (E := fun _ _ _ => False) pins σ _ _ er s' I2 hq'
  | .ok (.ret u), hq' =>
    obtain ⟨v, H2, os2, bare2, un2, hok2, rv, ev, ea, q2⟩ := hq'
    subst ev
    obtain ⟨h2, g2, d2, t2, os'⟩ := s'
    obtain ⟨t0, G, J, kG, ge, hoe⟩ := bare_end (d2 := d2) (t2 := t2) I z1 keep2 un2 hok2 os2 bare2 ea
    exact ⟨rv, hp.objs.size + 1, _, _, ⟨G, g2, d2, t2, _⟩, _, .ref C, none, rfl, J, kG, ge, hoe, ⟨rfl, rfl⟩, rfl, rfl, del_same, rfl, bare2, raises_own T.exC T.tyC, q2⟩
  | .ok .next, hq' => exact hq'.elim
  | .ok .brk, hq' => exact hq'.elim
  | .ok .cont, hq' => exact hq'.elim
end
/-- __init__(self) of such a class -/
def spN (C : Addr) : Sp := fun vs H Q _ => ∃ a, vs = [.ref a] ∧ H a = some (exo a C none) ∧ Q .non H
theorem mkN_use {C : Addr} {Q : XK} {H1 : Hp} (q : ∀ H', Same H1 H' → Q (.ref C) none H') : ∀ a, H1 a = none → spN C [.ref a] (upd H1 a (exo a C none)) (fun v H2 => v = .non ∧ H2 a = some (exo a C none) ∧ Q (.ref C) none (del H2 a)) (fun _ _ _ => False) :=
  fun a na => ⟨a, rfl, upd_same, rfl, upd_same, q _ fun b o hb => by rw [del_ne (ne_of_none hb na), upd_ne (ne_of_none hb na)]; exact hb⟩
/-! ### isinstance of a held error -/
def isxB (K : PySem.W.Frag) (C : Addr) : Bool := (PySem.W.clsIn K C).isSome && (decide (PySem.W.findIn K (.ref C) "__getattribute__" = some (some (.builtin "BaseException.__getattribute__"))) && (decide (PySem.W.findIn K (.ref C) "__getattr__" = some none) &&
  (decide (PySem.W.subIn K (.ref C) (.type "BaseException") = some true) && (decide (PySem.W.findIn K (.ref C) "__class__" = some (some (.builtin "object.__class__"))) && (decide (PySem.W.specialIn K (.builtin "object.__class__") "__get__" = some (some (.builtin "getset_descriptor.__get__"))) &&
  (decide (PySem.W.takesIn K (.builtin "object.__class__") = some true) && decide (PySem.W.mroIn K C (.type "object") = some true)))))))
def rIsX (K : PySem.W.Frag) (a : Addr) (cls : Value) (d : Option Addr) : List V → Hp → VK → Prop := fun xs H Q => ∃ (D : Addr) (c : V) (cv : Value) (b : Bool), cls = .ref D ∧ isxB K D = true ∧ (d = none ∨ ∃ dd fs, d = some dd ∧ H dd = some (.xd fs)) ∧ xs = [.ref a, c] ∧ (∀ u, RelV c u → u = cv) ∧ PySem.W.kitOne K (.ref D) cv = some b ∧ Q (.bl b) H
theorem call_isX {X : Cx} {a : Addr} {oe : Obj} {cls : Value} {d : Option Addr} {pn : List (Addr × Obj)} (hz : Zc cls d oe) (hf : ∃ vs, oe.data = .fields vs) : CallR (X.suite a ((a, oe) :: pn)) (.builtin "isinstance") (rIsX X.K a cls d) := by
  intro pins s σ H xs us Q I r h
  obtain ⟨D, c, cv, b, rfl, hx, hd, rfl, hcv, e, q⟩ := h
  unfold isxB at hx
  simp only [Bool.and_eq_true, decide_eq_true_eq] at hx
  obtain ⟨x0, x1, x2, x3, x4, x5, x6, x7⟩ := hx
  match us, r with
  | [u1, u2], .cons r1 (.cons r2 .nil) =>
    cases r1
    obtain rfl := hcv _ r2
    obtain ⟨at_, _⟩ := I.pin (a, oe) (List.mem_append_left _ List.mem_cons_self)
    obtain ⟨vs, hv⟩ := hf
    have nc : PySem.W.notCls oe = true := by unfold PySem.W.notCls; rw [hv] <;> rfl
    have J : ∃ od, PySem.W.InstAt s.heap a oe D od := by
      rcases hd with rfl | ⟨dd, fs, rfl, hdd⟩
      · exact ⟨none, at_, hz.1, nc, by rw [hz.2]; trivial⟩
      · have hk : ObjOk X.prog X.w H s.heap dd (.xd fs) := I.hok dd _ hdd
        obtain ⟨mA, hns, _⟩ := hk
        obtain ⟨od, ho, _⟩ := lookIn_ns hns
        exact ⟨some od, at_, hz.1, nc, by rw [hz.2]; exact ho⟩
    obtain ⟨od, J⟩ := J
    exact PySem.W.kia_one (PySem.W.kitx_exc x0 x1 x2 x3 x4 x5 x6 x7) I.kIn J e (fun z => nomatch z) fun tk => ⟨.bl b, H, I.kept (t' := tk) fun _ _ z => z, rfl, q⟩
/-! ### a method that may raise -/
def MetX (P : Program) (w : World) (K : PySem.W.Frag) (mg : Str → Option Value) (base : Heap) (k : Nat) (C : Addr) (m : Str) (sp : Sp) : Prop := ∃ f fd ps, Cls K C ∧ Meth K C m f ∧ FnOk P w K mg base (L2.CX P w) k f fd ps sp ∧ Binds K fd ps []
def tMethX (C : Addr) (m : Str) (sp : Sp) (E : L2.St → XK) (ta : TE) (t : TA) : TE := fun σ H Q => ta σ H fun x H1 => ∃ a dx fs, x = .ref a ∧ H1 a = some (.ins C dx fs) ∧ fs.lookup m = none ∧ t σ H1 fun vs H2 => sp (x :: vs) H2 Q (E σ)
section
variable {X : Cx} {k j : Nat} {C : Addr} {m : Str} {sp : Sp} {pos apos : Pos} {e o : Expr} {es : List Expr} {ta : TE} {t : TA} {E : L2.St → XK}
theorem pe_mx {pl : Sem Bool} (c : MetX X.prog X.w X.K X.mg X.base k C m sp) (hr : Room j X.A) (hk : k ≤ j) (hx : ∀ σ, PassesAt (L2.CX X.prog X.w) X σ (E σ)) (he : PE X o ta) (ha : PA X (e :: es) t)
    (hst : starEach (e :: es) X.env = (false, eval e X.env) :: starEach es X.env := by rfl) (hpl : (backTo pos (starEach es X.env)).any (·.1) = false := by rfl)
    (ht : eval (.Call (.Attribute o m apos) (e :: es) [] pos) X.env = (eval o X.env >>= fun ov => standAt apos.atName >>= fun _ => holding [ov] (getMethod ov m pl) >>= fun z => callWith pos z.1 z.2 (backTo pos (starEach (e :: es) X.env)) (backToKw pos (keywordEach [] X.env))) := by rfl) :
    PE X (.Call (.Attribute o m apos) (e :: es) [] pos) (tMethX C m sp E ta t) := by
  obtain ⟨f, fd, ps, hc, hm, F, b⟩ := c
  refine ⟨fun pins s σ H Q I h => PySem.W.methodCall_KW (pl := pl) (thn (he.run pins s σ H _ I h) fun u s1 ⟨x, H1, I1, rx, a, dx, fs, ex, ea, l, q⟩ => ?_) ht⟩
  subst ex
  obtain rfl : u = Value.ref a := rx
  refine getmeth_ok I1 ea hc hm l (PySem.W.callWith_K (first := [.ref a]) (h₀ := X.base) I.ok.mod.kin hm.kp (thn (ha.run pos pins s1 σ H1 _ I1 q) fun us s2 ⟨vs, H2, I2, r, q2⟩ => ⟨I2.kIn, ?_⟩) hst hpl)
  exact run_fnS (us := .ref a :: us) (vs := .ref a :: vs) F (hr.mono hk) b (hx σ) I2 (.cons rfl r) q2
theorem pe_mx0 {pl : Sem Bool} (c : MetX X.prog X.w X.K X.mg X.base k C m sp) (hr : Room j X.A) (hk : k ≤ j) (hx : ∀ σ, PassesAt (L2.CX X.prog X.w) X σ (E σ)) (he : PE X o ta)
    (ht : eval (.Call (.Attribute o m apos) [] [] pos) X.env = (eval o X.env >>= fun ov => standAt apos.atName >>= fun _ => holding [ov] (getMethod ov m pl) >>= fun z => callWith pos z.1 z.2 (backTo pos (starEach [] X.env)) (backToKw pos (keywordEach [] X.env))) := by rfl) :
    PE X (.Call (.Attribute o m apos) [] [] pos) (tMethX C m sp E ta tNil) := by
  obtain ⟨f, fd, ps, hc, hm, F, b⟩ := c
  refine ⟨fun pins s σ H Q I h => PySem.W.methodCall_KW (pl := pl) (thn (he.run pins s σ H _ I h) fun u s1 ⟨x, H1, I1, rx, a, dx, fs, ex, ea, l, q⟩ => ?_) ht⟩
  subst ex
  obtain rfl : u = Value.ref a := rx
  exact getmeth_ok I1 ea hc hm l (PySem.W.callWith_K0 (first := [.ref a]) I1.kIn hm.kp (run_fnS (us := [.ref a]) (vs := [.ref a]) F (hr.mono hk) b (hx σ) I1 (.cons rfl .nil) q))
end
end EI

set_option maxHeartbeats 4000000
namespace WH
open PySem PySem.Spec PyProof.Rows L2
def top (i : Nat) : Stmt := PySem.Challenge.pw_wanehold_k79_origins_alike_again.main.body.getD i (.Pass ⟨0, 0, 0, 0⟩)
abbrev s_TooMany___init__ : Stmt := inClass (top 4) 0
abbrev n_TooMany___init__ : List Str := ["self", "most"]
theorem sc_TooMany___init__ : FnScope n_TooMany___init__ ["self", "most"] (defScope s_TooMany___init__) := ⟨rfl, rfl, rfl, by decide +kernel, rfl, by decide +kernel, by decide +kernel⟩
abbrev s_NoNumber___init__ : Stmt := inClass (top 5) 0
abbrev n_NoNumber___init__ : List Str := ["self", "number"]
theorem sc_NoNumber___init__ : FnScope n_NoNumber___init__ ["self", "number"] (defScope s_NoNumber___init__) := ⟨rfl, rfl, rfl, by decide +kernel, rfl, by decide +kernel, by decide +kernel⟩
abbrev s_NotOne___init__ : Stmt := inClass (top 6) 0
abbrev n_NotOne___init__ : List Str := ["self"]
theorem sc_NotOne___init__ : FnScope n_NotOne___init__ ["self"] (defScope s_NotOne___init__) := ⟨rfl, rfl, rfl, by decide +kernel, rfl, by decide +kernel, by decide +kernel⟩
abbrev s_is_whole : Stmt := top 11
abbrev n_is_whole : List Str := ["thing"]
theorem sc_is_whole : FnScope n_is_whole ["thing"] (defScope s_is_whole) := ⟨rfl, rfl, rfl, by decide +kernel, rfl, by decide +kernel, by decide +kernel⟩
abbrev s_is_within : Stmt := top 12
abbrev n_is_within : List Str := ["thing", "least", "most"]
theorem sc_is_within : FnScope n_is_within ["thing", "least", "most"] (defScope s_is_within) := ⟨rfl, rfl, rfl, by decide +kernel, rfl, by decide +kernel, by decide +kernel⟩
abbrev s_is_strength : Stmt := top 13
abbrev n_is_strength : List Str := ["thing"]
theorem sc_is_strength : FnScope n_is_strength ["thing"] (defScope s_is_strength) := ⟨rfl, rfl, rfl, by decide +kernel, rfl, by decide +kernel, by decide +kernel⟩
abbrev s_is_size : Stmt := top 14
abbrev n_is_size : List Str := ["thing"]
theorem sc_is_size : FnScope n_is_size ["thing"] (defScope s_is_size) := ⟨rfl, rfl, rfl, by decide +kernel, rfl, by decide +kernel, by decide +kernel⟩
abbrev s_is_moment : Stmt := top 15
abbrev n_is_moment : List Str := ["thing"]
theorem sc_is_moment : FnScope n_is_moment ["thing"] (defScope s_is_moment) := ⟨rfl, rfl, rfl, by decide +kernel, rfl, by decide +kernel, by decide +kernel⟩
abbrev s_is_row : Stmt := top 16
abbrev n_is_row : List Str := ["thing", "sign"]
theorem sc_is_row : FnScope n_is_row ["thing"] (defScope s_is_row) := ⟨rfl, rfl, rfl, by decide +kernel, rfl, by decide +kernel, by decide +kernel⟩
abbrev s_is_step : Stmt := top 17
abbrev n_is_step : List Str := ["thing"]
theorem sc_is_step : FnScope n_is_step ["thing"] (defScope s_is_step) := ⟨rfl, rfl, rfl, by decide +kernel, rfl, by decide +kernel, by decide +kernel⟩
abbrev s_is_head : Stmt := top 21
abbrev n_is_head : List Str := ["thing", "one"]
theorem sc_is_head : FnScope n_is_head ["thing"] (defScope s_is_head) := ⟨rfl, rfl, rfl, by decide +kernel, rfl, by decide +kernel, by decide +kernel⟩
abbrev s_is_tail : Stmt := top 22
abbrev n_is_tail : List Str := ["thing", "one"]
theorem sc_is_tail : FnScope n_is_tail ["thing"] (defScope s_is_tail) := ⟨rfl, rfl, rfl, by decide +kernel, rfl, by decide +kernel, by decide +kernel⟩
abbrev s_Wane___init__ : Stmt := inClass (top 23) 0
abbrev n_Wane___init__ : List Str := ["self", "head", "tail", "cap", "lift", "anew"]
theorem sc_Wane___init__ : FnScope n_Wane___init__ ["self", "head", "tail", "cap", "lift", "anew"] (defScope s_Wane___init__) := ⟨rfl, rfl, rfl, by decide +kernel, rfl, by decide +kernel, by decide +kernel⟩
abbrev s_Wane_cap : Stmt := inClass (top 23) 3
abbrev n_Wane_cap : List Str := ["self"]
theorem sc_Wane_cap : FnScope n_Wane_cap ["self"] (defScope s_Wane_cap) := ⟨rfl, rfl, rfl, by decide +kernel, rfl, by decide +kernel, by decide +kernel⟩
abbrev s_Wane_lift : Stmt := inClass (top 23) 4
abbrev n_Wane_lift : List Str := ["self"]
theorem sc_Wane_lift : FnScope n_Wane_lift ["self"] (defScope s_Wane_lift) := ⟨rfl, rfl, rfl, by decide +kernel, rfl, by decide +kernel, by decide +kernel⟩
abbrev s_Wane_is_anew : Stmt := inClass (top 23) 5
abbrev n_Wane_is_anew : List Str := ["self"]
theorem sc_Wane_is_anew : FnScope n_Wane_is_anew ["self"] (defScope s_Wane_is_anew) := ⟨rfl, rfl, rfl, by decide +kernel, rfl, by decide +kernel, by decide +kernel⟩
abbrev s_Wane_coming : Stmt := inClass (top 23) 6
abbrev n_Wane_coming : List Str := ["self", "since", "long"]
theorem sc_Wane_coming : FnScope n_Wane_coming ["self", "since"] (defScope s_Wane_coming) := ⟨rfl, rfl, rfl, by decide +kernel, rfl, by decide +kernel, by decide +kernel⟩
abbrev s_Wane_phase_of : Stmt := inClass (top 23) 7
abbrev n_Wane_phase_of : List Str := ["self", "since", "long"]
theorem sc_Wane_phase_of : FnScope n_Wane_phase_of ["self", "since"] (defScope s_Wane_phase_of) := ⟨rfl, rfl, rfl, by decide +kernel, rfl, by decide +kernel, by decide +kernel⟩
abbrev s_Wane_phase : Stmt := inClass (top 23) 9
abbrev n_Wane_phase : List Str := ["self", "since"]
theorem sc_Wane_phase : FnScope n_Wane_phase ["self", "since"] (defScope s_Wane_phase) := ⟨rfl, rfl, rfl, by decide +kernel, rfl, by decide +kernel, by decide +kernel⟩
abbrev s_turn_effect : Stmt := top 25
abbrev n_turn_effect : List Str := ["step", "cap", "by", "take", "top"]
theorem sc_turn_effect : FnScope n_turn_effect ["step", "cap"] (defScope s_turn_effect) := ⟨rfl, rfl, rfl, by decide +kernel, rfl, by decide +kernel, by decide +kernel⟩
abbrev s_join_two : Stmt := top 26
abbrev n_join_two : List Str := ["one", "other", "least", "add", "by", "top", "least_then", "add_then", "by_then", "top_then"]
theorem sc_join_two : FnScope n_join_two ["one", "other"] (defScope s_join_two) := ⟨rfl, rfl, rfl, by decide +kernel, rfl, by decide +kernel, by decide +kernel⟩
abbrev s_row_effect : Stmt := top 27
abbrev n_row_effect : List Str := ["wane", "row", "since", "cap", "asking", "found", "sign", "part"]
theorem sc_row_effect : FnScope n_row_effect ["wane", "row", "since"] (defScope s_row_effect) := ⟨rfl, rfl, rfl, by decide +kernel, rfl, by decide +kernel, by decide +kernel⟩
abbrev s_effect_of : Stmt := top 28
abbrev n_effect_of : List Str := ["wane", "row", "since"]
theorem sc_effect_of : FnScope n_effect_of ["wane", "row", "since"] (defScope s_effect_of) := ⟨rfl, rfl, rfl, by decide +kernel, rfl, by decide +kernel, by decide +kernel⟩
abbrev s_is_seen : Stmt := top 32
abbrev n_is_seen : List Str := ["thing"]
theorem sc_is_seen : FnScope n_is_seen ["thing"] (defScope s_is_seen) := ⟨rfl, rfl, rfl, by decide +kernel, rfl, by decide +kernel, by decide +kernel⟩
abbrev s_is_part : Stmt := top 33
abbrev n_is_part : List Str := ["thing"]
theorem sc_is_part : FnScope n_is_part ["thing"] (defScope s_is_part) := ⟨rfl, rfl, rfl, by decide +kernel, rfl, by decide +kernel, by decide +kernel⟩
abbrev s_cut : Stmt := top 34
abbrev n_cut : List Str := ["least", "greatest"]
theorem sc_cut : FnScope n_cut ["least", "greatest"] (defScope s_cut) := ⟨rfl, rfl, rfl, by decide +kernel, rfl, by decide +kernel, by decide +kernel⟩
abbrev s_span_of : Stmt := top 35
abbrev n_span_of : List Str := ["part", "wane", "row", "since", "low", "high", "seen", "effect", "least", "add", "by", "top", "first", "last"]
theorem sc_span_of : FnScope n_span_of ["part"] (defScope s_span_of) := ⟨rfl, rfl, rfl, by decide +kernel, rfl, by decide +kernel, by decide +kernel⟩
abbrev s_width : Stmt := top 36
abbrev n_width : List Str := ["span"]
theorem sc_width : FnScope n_width ["span"] (defScope s_width) := ⟨rfl, rfl, rfl, by decide +kernel, rfl, by decide +kernel, by decide +kernel⟩
abbrev s_Origins___init__ : Stmt := inClass (top 37) 0
abbrev n_Origins___init__ : List Str := ["self", "parts", "part"]
theorem sc_Origins___init__ : FnScope n_Origins___init__ ["self", "parts"] (defScope s_Origins___init__) := ⟨rfl, rfl, rfl, by decide +kernel, rfl, by decide +kernel, by decide +kernel⟩
abbrev s_Origins_spans : Stmt := inClass (top 37) 1
abbrev n_Origins_spans : List Str := ["self"]
theorem sc_Origins_spans : FnScope n_Origins_spans ["self"] (defScope s_Origins_spans) := ⟨rfl, rfl, rfl, by decide +kernel, rfl, by decide +kernel, by decide +kernel⟩
abbrev s_Origins_many : Stmt := inClass (top 37) 2
abbrev n_Origins_many : List Str := ["self", "found", "span"]
theorem sc_Origins_many : FnScope n_Origins_many ["self"] (defScope s_Origins_many) := ⟨rfl, rfl, rfl, by decide +kernel, rfl, by decide +kernel, by decide +kernel⟩
abbrev s_Origins_list_of : Stmt := inClass (top 37) 3
abbrev n_Origins_list_of : List Str := ["self", "number", "found", "rest", "span", "more"]
theorem sc_Origins_list_of : FnScope n_Origins_list_of ["self", "number"] (defScope s_Origins_list_of) := ⟨rfl, rfl, rfl, by decide +kernel, rfl, by decide +kernel, by decide +kernel⟩
abbrev s_Origins_number_of : Stmt := inClass (top 37) 4
abbrev n_Origins_number_of : List Str := ["self", "strengths", "strength", "number", "span"]
theorem sc_Origins_number_of : FnScope n_Origins_number_of ["self", "strengths"] (defScope s_Origins_number_of) := ⟨rfl, rfl, rfl, by decide +kernel, rfl, by decide +kernel, by decide +kernel⟩
abbrev s_check_part : Stmt := top 39
abbrev n_check_part : List Str := ["wane", "strength", "least", "place"]
theorem sc_check_part : FnScope n_check_part ["wane", "strength", "least", "place"] (defScope s_check_part) := ⟨rfl, rfl, rfl, by decide +kernel, rfl, by decide +kernel, by decide +kernel⟩
abbrev s_turned : Stmt := top 40
abbrev n_turned : List Str := ["wane", "strength", "since", "by", "take"]
theorem sc_turned : FnScope n_turned ["wane", "strength", "since"] (defScope s_turned) := ⟨rfl, rfl, rfl, by decide +kernel, rfl, by decide +kernel, by decide +kernel⟩
abbrev s_asked : Stmt := top 41
abbrev n_asked : List Str := ["wane", "strength"]
theorem sc_asked : FnScope n_asked ["wane", "strength"] (defScope s_asked) := ⟨rfl, rfl, rfl, by decide +kernel, rfl, by decide +kernel, by decide +kernel⟩
abbrev s_waned : Stmt := top 42
abbrev n_waned : List Str := ["wane", "strength", "since"]
theorem sc_waned : FnScope n_waned ["wane", "strength", "since"] (defScope s_waned) := ⟨rfl, rfl, rfl, by decide +kernel, rfl, by decide +kernel, by decide +kernel⟩
abbrev s_lifted : Stmt := top 43
abbrev n_lifted : List Str := ["wane", "strength"]
theorem sc_lifted : FnScope n_lifted ["wane", "strength"] (defScope s_lifted) := ⟨rfl, rfl, rfl, by decide +kernel, rfl, by decide +kernel, by decide +kernel⟩
abbrev s_need_asked : Stmt := top 47
abbrev n_need_asked : List Str := ["one", "strength", "other", "far", "most", "place", "wane", "number"]
theorem sc_need_asked : FnScope n_need_asked ["one", "strength", "other", "far", "most"] (defScope s_need_asked) := ⟨rfl, rfl, rfl, by decide +kernel, rfl, by decide +kernel, by decide +kernel⟩
abbrev s_led : Stmt := top 48
abbrev n_led : List Str := ["wane", "state", "sign", "strength", "since"]
theorem sc_led : FnScope n_led ["wane", "state", "sign"] (defScope s_led) := ⟨rfl, rfl, rfl, by decide +kernel, rfl, by decide +kernel, by decide +kernel⟩
abbrev s_alike : Stmt := top 49
abbrev n_alike : List Str := ["one", "strength", "other", "far", "most", "rows", "known", "place", "row", "mine", "yours", "sign", "pair"]
theorem sc_alike : FnScope n_alike ["one", "strength", "other", "far", "most"] (defScope s_alike) := ⟨rfl, rfl, rfl, by decide +kernel, rfl, by decide +kernel, by decide +kernel⟩
abbrev s__law_bag : Stmt := top 51
abbrev n__law_bag : List Str := ["_law_script", "_law_cell"]
theorem sc__law_bag : FnScope n__law_bag ["_law_script"] (defScope s__law_bag) := ⟨rfl, rfl, rfl, by decide +kernel, rfl, by decide +kernel, by decide +kernel⟩
abbrev s__law_take : Stmt := top 52
abbrev n__law_take : List Str := ["_law_bag_here", "_law_many", "_law_cell", "_law_value", "_law_first", "_law_second"]
theorem sc__law_take : FnScope n__law_take ["_law_bag_here", "_law_many"] (defScope s__law_take) := ⟨rfl, rfl, rfl, by decide +kernel, rfl, by decide +kernel, by decide +kernel⟩
abbrev s__law_alike : Stmt := top 53
abbrev n__law_alike : List Str := ["_law_found", "_law_due"]
theorem sc__law_alike : FnScope n__law_alike ["_law_found", "_law_due"] (defScope s__law_alike) := ⟨rfl, rfl, rfl, by decide +kernel, rfl, by decide +kernel, by decide +kernel⟩
abbrev s__law_signs : Stmt := top 58
abbrev n__law_signs : List Str := ["_law_bag_here", "_law_bound", "_law_way", "_law_many", "_law_k"]
theorem sc__law_signs : FnScope n__law_signs ["_law_bag_here", "_law_bound"] (defScope s__law_signs) := ⟨rfl, rfl, rfl, by decide +kernel, rfl, by decide +kernel, by decide +kernel⟩
abbrev s__law_told : Stmt := top 61
abbrev n__law_told : List Str := ["_law_two_here", "_law_limit", "_law_one", "_law_strength", "_law_other", "_law_far", "e"]
theorem sc__law_told : FnScope n__law_told ["_law_two_here", "_law_limit"] (defScope s__law_told) := ⟨rfl, rfl, rfl, by decide +kernel, rfl, by decide +kernel, by decide +kernel⟩
abbrev s__law_parts : Stmt := top 62
abbrev n__law_parts : List Str := ["_law_bag_here", "_law_plan_here", "_law_wane", "_law_found", "_law_k", "_law_low", "_law_high", "_law_seen"]
theorem sc__law_parts : FnScope n__law_parts ["_law_bag_here"] (defScope s__law_parts) := ⟨rfl, rfl, rfl, by decide +kernel, rfl, by decide +kernel, by decide +kernel⟩
abbrev s__law_spoilt : Stmt := top 63
abbrev n__law_spoilt : List Str := ["_law_thing"]
theorem sc__law_spoilt : FnScope n__law_spoilt ["_law_thing"] (defScope s__law_spoilt) := ⟨rfl, rfl, rfl, by decide +kernel, rfl, by decide +kernel, by decide +kernel⟩
abbrev s__law_asked : Stmt := top 64
abbrev n__law_asked : List Str := ["_law_origins", "_law_two_here", "_law_way", "_law_number_here", "e"]
theorem sc__law_asked : FnScope n__law_asked ["_law_origins", "_law_two_here", "_law_way", "_law_number_here"] (defScope s__law_asked) := ⟨rfl, rfl, rfl, by decide +kernel, rfl, by decide +kernel, by decide +kernel⟩
abbrev s__law_number : Stmt := top 57
abbrev n__law_number : List Str := ["_law_bag_here", "_law_bound"]
theorem sc__law_number : FnScope n__law_number ["_law_bag_here", "_law_bound"] (defScope s__law_number) := ⟨rfl, rfl, rfl, by decide +kernel, rfl, by decide +kernel, by decide +kernel⟩
abbrev s__law_steps : Stmt := top 54
abbrev n__law_steps : List Str := ["_law_bag_here", "_law_many", "_law_found", "_law_k", "_law_by"]
theorem sc__law_steps : FnScope n__law_steps ["_law_bag_here", "_law_many"] (defScope s__law_steps) := ⟨rfl, rfl, rfl, by decide +kernel, rfl, by decide +kernel, by decide +kernel⟩
abbrev s__law_plan : Stmt := top 55
abbrev n__law_plan : List Str := ["_law_bag_here", "_law_bound", "_law_head", "_law_tail", "_law_top"]
theorem sc__law_plan : FnScope n__law_plan ["_law_bag_here", "_law_bound"] (defScope s__law_plan) := ⟨rfl, rfl, rfl, by decide +kernel, rfl, by decide +kernel, by decide +kernel⟩
abbrev s__law_made : Stmt := top 56
abbrev n__law_made : List Str := ["_law_plan_here"]
theorem sc__law_made : FnScope n__law_made ["_law_plan_here"] (defScope s__law_made) := ⟨rfl, rfl, rfl, by decide +kernel, rfl, by decide +kernel, by decide +kernel⟩
abbrev s__law_two : Stmt := top 59
abbrev n__law_two : List Str := ["_law_bag_here", "_law_bound", "_law_plan_here", "_law_strength", "_law_head", "_law_tail", "_law_top", "_law_up", "_law_renewed", "_law_way", "_law_at", "_law_steps_here", "_law_other"]
theorem sc__law_two : FnScope n__law_two ["_law_bag_here", "_law_bound"] (defScope s__law_two) := ⟨rfl, rfl, rfl, by decide +kernel, rfl, by decide +kernel, by decide +kernel⟩
abbrev s__law_long : Stmt := top 60
abbrev n__law_long : List Str := ["_law_bag_here", "_law_tail", "_law_head", "_law_some", "_law_top", "_law_rest"]
theorem sc__law_long : FnScope n__law_long ["_law_bag_here"] (defScope s__law_long) := ⟨rfl, rfl, rfl, by decide +kernel, rfl, by decide +kernel, by decide +kernel⟩
abbrev s_law : Stmt := top 65
abbrev n_law : List Str := ["_law_script", "_law_bag_here", "_law_parts_here", "_law_handed", "_law_one", "_law_other", "_law_both", "_law_two_here", "_law_known", "_law_turn", "_law_key", "_law_found", "_law_shown", "_law_thing"]
theorem sc_law : FnScope n_law ["_law_script"] (defScope s_law) := ⟨rfl, rfl, rfl, by decide +kernel, rfl, by decide +kernel, by decide +kernel⟩
def tys (K : PySem.W.Frag) : List Value := [.type "NoneType", .type "bool", .type "int", .type "str", .type "list", .type "tuple", .type "dict", .ref (He.ga K "Wane")]
def cls (K : PySem.W.Frag) : List Value := [.type "bool", .type "int", .type "str", .type "list", .type "tuple", .ref (He.ga K "Wane")]
def isk (t c : Value) : Bool := decide (t = c) || (decide (t = .type "bool") && decide (c = .type "int"))
def insB (K : PySem.W.Frag) (C : Addr) : Bool := decide (PySem.W.findIn K (.ref C) "__class__" = some (some (.builtin "object.__class__"))) && (decide (PySem.W.specialIn K (.builtin "object.__class__") "__get__" = some (some (.builtin "getset_descriptor.__get__"))) &&
  (decide (PySem.W.takesIn K (.builtin "object.__class__") = some true) && decide (PySem.W.mroIn K C (.type "object") = some true)))
def kitAll (K : PySem.W.Frag) : Bool := ((tys K).all fun t => (cls K).all fun c => decide (PySem.W.kitOne K t c = some (isk t c))) && insB K (He.ga K "Wane")
def exAll (K : PySem.W.Frag) : Bool := EI.isxB K (He.ga K "NoNumber") && (EI.isxB K (He.ga K "NotOne") && ((["NoNumber", "NotOne"].all fun a => ["NoNumber", "NotOne"].all fun b => decide (PySem.W.kitOne K (.ref (He.ga K a)) (.ref (He.ga K b)) = some (a == b))) &&
  (["NoNumber", "NotOne"].all fun a => decide (PySem.W.exmOne K (.ref (He.ga K a)) (.ref (He.ga K "WaneError")) = some true))))
def d_TooMany___init__ : He.DefD := ⟨("TooMany", some "__init__"), "__init__", "TooMany.__init__", defArgs s_TooMany___init__, defBody s_TooMany___init__, defScope s_TooMany___init__, [], []⟩
def d_NoNumber___init__ : He.DefD := ⟨("NoNumber", some "__init__"), "__init__", "NoNumber.__init__", defArgs s_NoNumber___init__, defBody s_NoNumber___init__, defScope s_NoNumber___init__, [], []⟩
def d_NotOne___init__ : He.DefD := ⟨("NotOne", some "__init__"), "__init__", "NotOne.__init__", defArgs s_NotOne___init__, defBody s_NotOne___init__, defScope s_NotOne___init__, [], []⟩
def d_is_whole : He.DefD := ⟨("is_whole", none), "is_whole", "is_whole", defArgs s_is_whole, defBody s_is_whole, defScope s_is_whole, [], []⟩
def d_is_within : He.DefD := ⟨("is_within", none), "is_within", "is_within", defArgs s_is_within, defBody s_is_within, defScope s_is_within, [], []⟩
def d_is_strength : He.DefD := ⟨("is_strength", none), "is_strength", "is_strength", defArgs s_is_strength, defBody s_is_strength, defScope s_is_strength, [], []⟩
def d_is_size : He.DefD := ⟨("is_size", none), "is_size", "is_size", defArgs s_is_size, defBody s_is_size, defScope s_is_size, [], []⟩
def d_is_moment : He.DefD := ⟨("is_moment", none), "is_moment", "is_moment", defArgs s_is_moment, defBody s_is_moment, defScope s_is_moment, [], []⟩
def d_is_row : He.DefD := ⟨("is_row", none), "is_row", "is_row", defArgs s_is_row, defBody s_is_row, defScope s_is_row, [], []⟩
def d_is_step : He.DefD := ⟨("is_step", none), "is_step", "is_step", defArgs s_is_step, defBody s_is_step, defScope s_is_step, [], []⟩
def d_is_head : He.DefD := ⟨("is_head", none), "is_head", "is_head", defArgs s_is_head, defBody s_is_head, defScope s_is_head, [], []⟩
def d_is_tail : He.DefD := ⟨("is_tail", none), "is_tail", "is_tail", defArgs s_is_tail, defBody s_is_tail, defScope s_is_tail, [], []⟩
def d_Wane___init__ : He.DefD := ⟨("Wane", some "__init__"), "__init__", "Wane.__init__", defArgs s_Wane___init__, defBody s_Wane___init__, defScope s_Wane___init__, [], [("anew", (.bl true))]⟩
def d_Wane_cap : He.DefD := ⟨("Wane", some "cap"), "cap", "Wane.cap", defArgs s_Wane_cap, defBody s_Wane_cap, defScope s_Wane_cap, [], []⟩
def d_Wane_lift : He.DefD := ⟨("Wane", some "lift"), "lift", "Wane.lift", defArgs s_Wane_lift, defBody s_Wane_lift, defScope s_Wane_lift, [], []⟩
def d_Wane_is_anew : He.DefD := ⟨("Wane", some "is_anew"), "is_anew", "Wane.is_anew", defArgs s_Wane_is_anew, defBody s_Wane_is_anew, defScope s_Wane_is_anew, [], []⟩
def d_Wane_coming : He.DefD := ⟨("Wane", some "coming"), "coming", "Wane.coming", defArgs s_Wane_coming, defBody s_Wane_coming, defScope s_Wane_coming, [], []⟩
def d_Wane_phase_of : He.DefD := ⟨("Wane", some "phase_of"), "phase_of", "Wane.phase_of", defArgs s_Wane_phase_of, defBody s_Wane_phase_of, defScope s_Wane_phase_of, [], []⟩
def d_Wane_phase : He.DefD := ⟨("Wane", some "phase"), "phase", "Wane.phase", defArgs s_Wane_phase, defBody s_Wane_phase, defScope s_Wane_phase, [], []⟩
def d_turn_effect : He.DefD := ⟨("turn_effect", none), "turn_effect", "turn_effect", defArgs s_turn_effect, defBody s_turn_effect, defScope s_turn_effect, [], []⟩
def d_join_two : He.DefD := ⟨("join_two", none), "join_two", "join_two", defArgs s_join_two, defBody s_join_two, defScope s_join_two, [], []⟩
def d_row_effect : He.DefD := ⟨("row_effect", none), "row_effect", "row_effect", defArgs s_row_effect, defBody s_row_effect, defScope s_row_effect, [], []⟩
def d_effect_of : He.DefD := ⟨("effect_of", none), "effect_of", "effect_of", defArgs s_effect_of, defBody s_effect_of, defScope s_effect_of, [], [("since", (.int 0))]⟩
def d_is_seen : He.DefD := ⟨("is_seen", none), "is_seen", "is_seen", defArgs s_is_seen, defBody s_is_seen, defScope s_is_seen, [], []⟩
def d_is_part : He.DefD := ⟨("is_part", none), "is_part", "is_part", defArgs s_is_part, defBody s_is_part, defScope s_is_part, [], []⟩
def d_cut : He.DefD := ⟨("cut", none), "cut", "cut", defArgs s_cut, defBody s_cut, defScope s_cut, [], []⟩
def d_span_of : He.DefD := ⟨("span_of", none), "span_of", "span_of", defArgs s_span_of, defBody s_span_of, defScope s_span_of, [], []⟩
def d_width : He.DefD := ⟨("width", none), "width", "width", defArgs s_width, defBody s_width, defScope s_width, [], []⟩
def d_Origins___init__ : He.DefD := ⟨("Origins", some "__init__"), "__init__", "Origins.__init__", defArgs s_Origins___init__, defBody s_Origins___init__, defScope s_Origins___init__, [], []⟩
def d_Origins_spans : He.DefD := ⟨("Origins", some "spans"), "spans", "Origins.spans", defArgs s_Origins_spans, defBody s_Origins_spans, defScope s_Origins_spans, [], []⟩
def d_Origins_many : He.DefD := ⟨("Origins", some "many"), "many", "Origins.many", defArgs s_Origins_many, defBody s_Origins_many, defScope s_Origins_many, [], []⟩
def d_Origins_list_of : He.DefD := ⟨("Origins", some "list_of"), "list_of", "Origins.list_of", defArgs s_Origins_list_of, defBody s_Origins_list_of, defScope s_Origins_list_of, [], []⟩
def d_Origins_number_of : He.DefD := ⟨("Origins", some "number_of"), "number_of", "Origins.number_of", defArgs s_Origins_number_of, defBody s_Origins_number_of, defScope s_Origins_number_of, [], []⟩
def d_check_part : He.DefD := ⟨("check_part", none), "check_part", "check_part", defArgs s_check_part, defBody s_check_part, defScope s_check_part, [], []⟩
def d_turned : He.DefD := ⟨("turned", none), "turned", "turned", defArgs s_turned, defBody s_turned, defScope s_turned, [], []⟩
def d_asked : He.DefD := ⟨("asked", none), "asked", "asked", defArgs s_asked, defBody s_asked, defScope s_asked, [], []⟩
def d_waned : He.DefD := ⟨("waned", none), "waned", "waned", defArgs s_waned, defBody s_waned, defScope s_waned, [], []⟩
def d_lifted : He.DefD := ⟨("lifted", none), "lifted", "lifted", defArgs s_lifted, defBody s_lifted, defScope s_lifted, [], []⟩
def d_need_asked : He.DefD := ⟨("need_asked", none), "need_asked", "need_asked", defArgs s_need_asked, defBody s_need_asked, defScope s_need_asked, [], []⟩
def d_led : He.DefD := ⟨("led", none), "led", "led", defArgs s_led, defBody s_led, defScope s_led, [], []⟩
def d_alike : He.DefD := ⟨("alike", none), "alike", "alike", defArgs s_alike, defBody s_alike, defScope s_alike, [], [("most", (.int 200))]⟩
def d__law_bag : He.DefD := ⟨("_law_bag", none), "_law_bag", "_law_bag", defArgs s__law_bag, defBody s__law_bag, defScope s__law_bag, [], []⟩
def d__law_take : He.DefD := ⟨("_law_take", none), "_law_take", "_law_take", defArgs s__law_take, defBody s__law_take, defScope s__law_take, [], []⟩
def d__law_alike : He.DefD := ⟨("_law_alike", none), "_law_alike", "_law_alike", defArgs s__law_alike, defBody s__law_alike, defScope s__law_alike, [], []⟩
def d__law_signs : He.DefD := ⟨("_law_signs", none), "_law_signs", "_law_signs", defArgs s__law_signs, defBody s__law_signs, defScope s__law_signs, [], []⟩
def d__law_told : He.DefD := ⟨("_law_told", none), "_law_told", "_law_told", defArgs s__law_told, defBody s__law_told, defScope s__law_told, [], []⟩
def d__law_parts : He.DefD := ⟨("_law_parts", none), "_law_parts", "_law_parts", defArgs s__law_parts, defBody s__law_parts, defScope s__law_parts, [], []⟩
def d__law_spoilt : He.DefD := ⟨("_law_spoilt", none), "_law_spoilt", "_law_spoilt", defArgs s__law_spoilt, defBody s__law_spoilt, defScope s__law_spoilt, [], []⟩
def d__law_asked : He.DefD := ⟨("_law_asked", none), "_law_asked", "_law_asked", defArgs s__law_asked, defBody s__law_asked, defScope s__law_asked, [], []⟩
def d__law_number : He.DefD := ⟨("_law_number", none), "_law_number", "_law_number", defArgs s__law_number, defBody s__law_number, defScope s__law_number, [], []⟩
def d__law_steps : He.DefD := ⟨("_law_steps", none), "_law_steps", "_law_steps", defArgs s__law_steps, defBody s__law_steps, defScope s__law_steps, [], []⟩
def d__law_plan : He.DefD := ⟨("_law_plan", none), "_law_plan", "_law_plan", defArgs s__law_plan, defBody s__law_plan, defScope s__law_plan, [], []⟩
def d__law_made : He.DefD := ⟨("_law_made", none), "_law_made", "_law_made", defArgs s__law_made, defBody s__law_made, defScope s__law_made, [], []⟩
def d__law_two : He.DefD := ⟨("_law_two", none), "_law_two", "_law_two", defArgs s__law_two, defBody s__law_two, defScope s__law_two, [], []⟩
def d__law_long : He.DefD := ⟨("_law_long", none), "_law_long", "_law_long", defArgs s__law_long, defBody s__law_long, defScope s__law_long, [], []⟩
def d_law : He.DefD := ⟨("law", none), "law", "law", defArgs s_law, defBody s_law, defScope s_law, [], []⟩
def fnL : List He.DefD := [d_TooMany___init__, d_NoNumber___init__, d_NotOne___init__, d_is_whole, d_is_within, d_is_strength, d_is_size, d_is_moment, d_is_row, d_is_step, d_is_head, d_is_tail, d_Wane___init__, d_Wane_cap, d_Wane_lift, d_Wane_is_anew, d_Wane_coming, d_Wane_phase_of, d_Wane_phase, d_turn_effect, d_join_two, d_row_effect, d_effect_of, d_is_seen, d_is_part, d_cut, d_span_of, d_width, d_Origins___init__, d_Origins_spans, d_Origins_many, d_Origins_list_of, d_Origins_number_of, d_check_part, d_turned, d_asked, d_waned, d_lifted, d_need_asked, d_led, d_alike, d__law_bag, d__law_take, d__law_alike, d__law_signs, d__law_told, d__law_parts, d__law_spoilt, d__law_asked, d__law_number, d__law_steps, d__law_plan, d__law_made, d__law_two, d__law_long, d_law]
def faL : List He.Fa := [.free "abs", .free "all", .free "bool", .free "divmod", .free "int", .free "isinstance", .free "len", .free "list", .free "max", .free "min", .free "range", .free "repr", .free "str", .free "tuple", .free "zip", .glo "is_whole", .glo "is_within", .glo "is_strength", .glo "is_size", .glo "is_moment", .glo "is_row", .glo "is_step", .glo "is_head", .glo "is_tail", .glo "turn_effect", .glo "join_two", .glo "row_effect", .glo "effect_of", .glo "is_seen", .glo "is_part", .glo "cut", .glo "span_of", .glo "width", .glo "check_part", .glo "turned", .glo "asked", .glo "waned", .glo "lifted", .glo "need_asked", .glo "led", .glo "alike", .glo "_law_bag", .glo "_law_take", .glo "_law_alike", .glo "_law_signs", .glo "_law_told", .glo "_law_parts", .glo "_law_spoilt", .glo "_law_asked", .glo "_law_number", .glo "_law_steps", .glo "_law_plan", .glo "_law_made", .glo "_law_two", .glo "_law_long", .glo "law", .glo "WaneError", .glo "TooMany", .glo "NoNumber", .glo "NotOne", .glo "Wane", .glo "Origins", .int "MOST_STRENGTH" 1000000000, .int "MOST_MOMENT" 1000000000000000000000000000000, .int "LONGEST_ROW" 200, .int "LONGEST_HEAD" 24, .glo "TAILS", .int "MOST_PARTS" 8, .str "THERE" "there", .int "MOST_PAIRS" 400, .str "SIGNS" ".a", .cls "Wane", .noat "Wane" "begins", .noat "Wane" "cap_at", .noat "Wane" "head_steps", .noat "Wane" "lift_by", .noat "Wane" "tail_steps", .meth "Wane" "cap", .meth "Wane" "lift", .meth "Wane" "is_anew", .meth "Wane" "coming", .meth "Wane" "phase_of", .meth "Wane" "phase", .mkr "Wane", .cls "Origins", .noat "Origins" "fitting", .meth "Origins" "spans", .meth "Origins" "many", .meth "Origins" "list_of", .meth "Origins" "number_of", .mkr "Origins", .noat "TooMany" "most", .noat "NoNumber" "number"]
def exL : List (PySem.W.Frag → Bool) := [kitAll, fun K => He.tupB K "TAILS" [.int 1, .int 2, .int 3, .int 4, .int 6, .int 8, .int 12, .int 24], exAll, fun K => L2.xfB K (He.ga K "TooMany") && decide (PySem.W.findIn K (.ref (He.ga K "TooMany")) "most" = some none), fun K => EX.oexB K (He.ga K "TooMany"), fun K => decide (PySem.W.findIn K (.ref (He.ga K "TooMany")) "__init__" = some (some (.ref (He.ma K (He.ga K "TooMany") "__init__")))) && (decide (PySem.W.typeIn K (.ref (He.ma K (He.ga K "TooMany") "__init__")) = some (.type "function")) && decide (PySem.W.exmOne K (.ref (He.ga K "TooMany")) (.ref (He.ga K "TooMany")) = some true)), fun K => L2.xfB K (He.ga K "NoNumber") && decide (PySem.W.findIn K (.ref (He.ga K "NoNumber")) "number" = some none), fun K => EX.oexB K (He.ga K "NoNumber"), fun K => decide (PySem.W.findIn K (.ref (He.ga K "NoNumber")) "__init__" = some (some (.ref (He.ma K (He.ga K "NoNumber") "__init__")))) && (decide (PySem.W.typeIn K (.ref (He.ma K (He.ga K "NoNumber") "__init__")) = some (.type "function")) && decide (PySem.W.exmOne K (.ref (He.ga K "NoNumber")) (.ref (He.ga K "NoNumber")) = some true)), fun K => EX.oexB K (He.ga K "NotOne"), fun K => decide (PySem.W.findIn K (.ref (He.ga K "NotOne")) "__init__" = some (some (.ref (He.ma K (He.ga K "NotOne") "__init__")))) && (decide (PySem.W.typeIn K (.ref (He.ma K (He.ga K "NotOne") "__init__")) = some (.type "function")) && decide (PySem.W.exmOne K (.ref (He.ga K "NotOne")) (.ref (He.ga K "NotOne")) = some true)), fun K => EX.binB K (He.ga K "WaneError")]
structure Txt (K : PySem.W.Frag) (mg : Str → Option Value) : Prop where
  fn : ∀ (i : Nat) (d : He.DefD), fnL[i]? = some d → ∃ fd, FunD K d.name d.qual d.params d.body d.scope (d.dvs K) (d.kws K) (He.fAd K d.at_) fd
  fa : ∀ (i : Nat) {f : He.Fa}, faL[i]? = some f → f.ok K = true
  hp : ∃ h : Heap, K.In h ∧ h.Ns mainGlobals mg
  ex : ∀ (i : Nat) {f : PySem.W.Frag → Bool}, exL[i]? = some f → f K = true
section
variable {K : PySem.W.Frag} {mg : Str → Option Value}
theorem Txt.b_abs (T : Txt K mg) : mg "abs" = none := let ⟨_, X, G⟩ := T.hp; He.free_ok X G (T.fa 0 rfl)
theorem Txt.b_all (T : Txt K mg) : mg "all" = none := let ⟨_, X, G⟩ := T.hp; He.free_ok X G (T.fa 1 rfl)
theorem Txt.b_bool (T : Txt K mg) : mg "bool" = none := let ⟨_, X, G⟩ := T.hp; He.free_ok X G (T.fa 2 rfl)
theorem Txt.b_divmod (T : Txt K mg) : mg "divmod" = none := let ⟨_, X, G⟩ := T.hp; He.free_ok X G (T.fa 3 rfl)
theorem Txt.b_int (T : Txt K mg) : mg "int" = none := let ⟨_, X, G⟩ := T.hp; He.free_ok X G (T.fa 4 rfl)
theorem Txt.b_isinstance (T : Txt K mg) : mg "isinstance" = none := let ⟨_, X, G⟩ := T.hp; He.free_ok X G (T.fa 5 rfl)
theorem Txt.b_len (T : Txt K mg) : mg "len" = none := let ⟨_, X, G⟩ := T.hp; He.free_ok X G (T.fa 6 rfl)
theorem Txt.b_list (T : Txt K mg) : mg "list" = none := let ⟨_, X, G⟩ := T.hp; He.free_ok X G (T.fa 7 rfl)
theorem Txt.b_max (T : Txt K mg) : mg "max" = none := let ⟨_, X, G⟩ := T.hp; He.free_ok X G (T.fa 8 rfl)
theorem Txt.b_min (T : Txt K mg) : mg "min" = none := let ⟨_, X, G⟩ := T.hp; He.free_ok X G (T.fa 9 rfl)
theorem Txt.b_range (T : Txt K mg) : mg "range" = none := let ⟨_, X, G⟩ := T.hp; He.free_ok X G (T.fa 10 rfl)
theorem Txt.b_repr (T : Txt K mg) : mg "repr" = none := let ⟨_, X, G⟩ := T.hp; He.free_ok X G (T.fa 11 rfl)
theorem Txt.b_str (T : Txt K mg) : mg "str" = none := let ⟨_, X, G⟩ := T.hp; He.free_ok X G (T.fa 12 rfl)
theorem Txt.b_tuple (T : Txt K mg) : mg "tuple" = none := let ⟨_, X, G⟩ := T.hp; He.free_ok X G (T.fa 13 rfl)
theorem Txt.b_zip (T : Txt K mg) : mg "zip" = none := let ⟨_, X, G⟩ := T.hp; He.free_ok X G (T.fa 14 rfl)
theorem Txt.g_is_whole (T : Txt K mg) : mg "is_whole" = some (.ref (He.ga K "is_whole")) := let ⟨_, X, G⟩ := T.hp; He.glo_ok X G (T.fa 15 rfl)
theorem Txt.g_is_within (T : Txt K mg) : mg "is_within" = some (.ref (He.ga K "is_within")) := let ⟨_, X, G⟩ := T.hp; He.glo_ok X G (T.fa 16 rfl)
theorem Txt.g_is_strength (T : Txt K mg) : mg "is_strength" = some (.ref (He.ga K "is_strength")) := let ⟨_, X, G⟩ := T.hp; He.glo_ok X G (T.fa 17 rfl)
theorem Txt.g_is_size (T : Txt K mg) : mg "is_size" = some (.ref (He.ga K "is_size")) := let ⟨_, X, G⟩ := T.hp; He.glo_ok X G (T.fa 18 rfl)
theorem Txt.g_is_moment (T : Txt K mg) : mg "is_moment" = some (.ref (He.ga K "is_moment")) := let ⟨_, X, G⟩ := T.hp; He.glo_ok X G (T.fa 19 rfl)
theorem Txt.g_is_row (T : Txt K mg) : mg "is_row" = some (.ref (He.ga K "is_row")) := let ⟨_, X, G⟩ := T.hp; He.glo_ok X G (T.fa 20 rfl)
theorem Txt.g_is_step (T : Txt K mg) : mg "is_step" = some (.ref (He.ga K "is_step")) := let ⟨_, X, G⟩ := T.hp; He.glo_ok X G (T.fa 21 rfl)
theorem Txt.g_is_head (T : Txt K mg) : mg "is_head" = some (.ref (He.ga K "is_head")) := let ⟨_, X, G⟩ := T.hp; He.glo_ok X G (T.fa 22 rfl)
theorem Txt.g_is_tail (T : Txt K mg) : mg "is_tail" = some (.ref (He.ga K "is_tail")) := let ⟨_, X, G⟩ := T.hp; He.glo_ok X G (T.fa 23 rfl)
theorem Txt.g_turn_effect (T : Txt K mg) : mg "turn_effect" = some (.ref (He.ga K "turn_effect")) := let ⟨_, X, G⟩ := T.hp; He.glo_ok X G (T.fa 24 rfl)
theorem Txt.g_join_two (T : Txt K mg) : mg "join_two" = some (.ref (He.ga K "join_two")) := let ⟨_, X, G⟩ := T.hp; He.glo_ok X G (T.fa 25 rfl)
theorem Txt.g_row_effect (T : Txt K mg) : mg "row_effect" = some (.ref (He.ga K "row_effect")) := let ⟨_, X, G⟩ := T.hp; He.glo_ok X G (T.fa 26 rfl)
theorem Txt.g_effect_of (T : Txt K mg) : mg "effect_of" = some (.ref (He.ga K "effect_of")) := let ⟨_, X, G⟩ := T.hp; He.glo_ok X G (T.fa 27 rfl)
theorem Txt.g_is_seen (T : Txt K mg) : mg "is_seen" = some (.ref (He.ga K "is_seen")) := let ⟨_, X, G⟩ := T.hp; He.glo_ok X G (T.fa 28 rfl)
theorem Txt.g_is_part (T : Txt K mg) : mg "is_part" = some (.ref (He.ga K "is_part")) := let ⟨_, X, G⟩ := T.hp; He.glo_ok X G (T.fa 29 rfl)
theorem Txt.g_cut (T : Txt K mg) : mg "cut" = some (.ref (He.ga K "cut")) := let ⟨_, X, G⟩ := T.hp; He.glo_ok X G (T.fa 30 rfl)
theorem Txt.g_span_of (T : Txt K mg) : mg "span_of" = some (.ref (He.ga K "span_of")) := let ⟨_, X, G⟩ := T.hp; He.glo_ok X G (T.fa 31 rfl)
theorem Txt.g_width (T : Txt K mg) : mg "width" = some (.ref (He.ga K "width")) := let ⟨_, X, G⟩ := T.hp; He.glo_ok X G (T.fa 32 rfl)
theorem Txt.g_check_part (T : Txt K mg) : mg "check_part" = some (.ref (He.ga K "check_part")) := let ⟨_, X, G⟩ := T.hp; He.glo_ok X G (T.fa 33 rfl)
theorem Txt.g_turned (T : Txt K mg) : mg "turned" = some (.ref (He.ga K "turned")) := let ⟨_, X, G⟩ := T.hp; He.glo_ok X G (T.fa 34 rfl)
theorem Txt.g_asked (T : Txt K mg) : mg "asked" = some (.ref (He.ga K "asked")) := let ⟨_, X, G⟩ := T.hp; He.glo_ok X G (T.fa 35 rfl)
theorem Txt.g_waned (T : Txt K mg) : mg "waned" = some (.ref (He.ga K "waned")) := let ⟨_, X, G⟩ := T.hp; He.glo_ok X G (T.fa 36 rfl)
theorem Txt.g_lifted (T : Txt K mg) : mg "lifted" = some (.ref (He.ga K "lifted")) := let ⟨_, X, G⟩ := T.hp; He.glo_ok X G (T.fa 37 rfl)
theorem Txt.g_need_asked (T : Txt K mg) : mg "need_asked" = some (.ref (He.ga K "need_asked")) := let ⟨_, X, G⟩ := T.hp; He.glo_ok X G (T.fa 38 rfl)
theorem Txt.g_led (T : Txt K mg) : mg "led" = some (.ref (He.ga K "led")) := let ⟨_, X, G⟩ := T.hp; He.glo_ok X G (T.fa 39 rfl)
theorem Txt.g_alike (T : Txt K mg) : mg "alike" = some (.ref (He.ga K "alike")) := let ⟨_, X, G⟩ := T.hp; He.glo_ok X G (T.fa 40 rfl)
theorem Txt.g__law_bag (T : Txt K mg) : mg "_law_bag" = some (.ref (He.ga K "_law_bag")) := let ⟨_, X, G⟩ := T.hp; He.glo_ok X G (T.fa 41 rfl)
theorem Txt.g__law_take (T : Txt K mg) : mg "_law_take" = some (.ref (He.ga K "_law_take")) := let ⟨_, X, G⟩ := T.hp; He.glo_ok X G (T.fa 42 rfl)
theorem Txt.g__law_alike (T : Txt K mg) : mg "_law_alike" = some (.ref (He.ga K "_law_alike")) := let ⟨_, X, G⟩ := T.hp; He.glo_ok X G (T.fa 43 rfl)
theorem Txt.g__law_signs (T : Txt K mg) : mg "_law_signs" = some (.ref (He.ga K "_law_signs")) := let ⟨_, X, G⟩ := T.hp; He.glo_ok X G (T.fa 44 rfl)
theorem Txt.g__law_told (T : Txt K mg) : mg "_law_told" = some (.ref (He.ga K "_law_told")) := let ⟨_, X, G⟩ := T.hp; He.glo_ok X G (T.fa 45 rfl)
theorem Txt.g__law_parts (T : Txt K mg) : mg "_law_parts" = some (.ref (He.ga K "_law_parts")) := let ⟨_, X, G⟩ := T.hp; He.glo_ok X G (T.fa 46 rfl)
theorem Txt.g__law_spoilt (T : Txt K mg) : mg "_law_spoilt" = some (.ref (He.ga K "_law_spoilt")) := let ⟨_, X, G⟩ := T.hp; He.glo_ok X G (T.fa 47 rfl)
theorem Txt.g__law_asked (T : Txt K mg) : mg "_law_asked" = some (.ref (He.ga K "_law_asked")) := let ⟨_, X, G⟩ := T.hp; He.glo_ok X G (T.fa 48 rfl)
theorem Txt.g__law_number (T : Txt K mg) : mg "_law_number" = some (.ref (He.ga K "_law_number")) := let ⟨_, X, G⟩ := T.hp; He.glo_ok X G (T.fa 49 rfl)
theorem Txt.g__law_steps (T : Txt K mg) : mg "_law_steps" = some (.ref (He.ga K "_law_steps")) := let ⟨_, X, G⟩ := T.hp; He.glo_ok X G (T.fa 50 rfl)
theorem Txt.g__law_plan (T : Txt K mg) : mg "_law_plan" = some (.ref (He.ga K "_law_plan")) := let ⟨_, X, G⟩ := T.hp; He.glo_ok X G (T.fa 51 rfl)
theorem Txt.g__law_made (T : Txt K mg) : mg "_law_made" = some (.ref (He.ga K "_law_made")) := let ⟨_, X, G⟩ := T.hp; He.glo_ok X G (T.fa 52 rfl)
theorem Txt.g__law_two (T : Txt K mg) : mg "_law_two" = some (.ref (He.ga K "_law_two")) := let ⟨_, X, G⟩ := T.hp; He.glo_ok X G (T.fa 53 rfl)
theorem Txt.g__law_long (T : Txt K mg) : mg "_law_long" = some (.ref (He.ga K "_law_long")) := let ⟨_, X, G⟩ := T.hp; He.glo_ok X G (T.fa 54 rfl)
theorem Txt.g_law (T : Txt K mg) : mg "law" = some (.ref (He.ga K "law")) := let ⟨_, X, G⟩ := T.hp; He.glo_ok X G (T.fa 55 rfl)
theorem Txt.g_WaneError (T : Txt K mg) : mg "WaneError" = some (.ref (He.ga K "WaneError")) := let ⟨_, X, G⟩ := T.hp; He.glo_ok X G (T.fa 56 rfl)
theorem Txt.g_TooMany (T : Txt K mg) : mg "TooMany" = some (.ref (He.ga K "TooMany")) := let ⟨_, X, G⟩ := T.hp; He.glo_ok X G (T.fa 57 rfl)
theorem Txt.g_NoNumber (T : Txt K mg) : mg "NoNumber" = some (.ref (He.ga K "NoNumber")) := let ⟨_, X, G⟩ := T.hp; He.glo_ok X G (T.fa 58 rfl)
theorem Txt.g_NotOne (T : Txt K mg) : mg "NotOne" = some (.ref (He.ga K "NotOne")) := let ⟨_, X, G⟩ := T.hp; He.glo_ok X G (T.fa 59 rfl)
theorem Txt.g_Wane (T : Txt K mg) : mg "Wane" = some (.ref (He.ga K "Wane")) := let ⟨_, X, G⟩ := T.hp; He.glo_ok X G (T.fa 60 rfl)
theorem Txt.g_Origins (T : Txt K mg) : mg "Origins" = some (.ref (He.ga K "Origins")) := let ⟨_, X, G⟩ := T.hp; He.glo_ok X G (T.fa 61 rfl)
theorem Txt.c_MOST_STRENGTH (T : Txt K mg) : ∃ u, mg "MOST_STRENGTH" = some u ∧ RelV (.int 1000000000) u := let ⟨_, X, G⟩ := T.hp; let ⟨t, e⟩ := He.int_ok X G (T.fa 62 rfl); ⟨_, e, t, rfl⟩
theorem Txt.c_MOST_MOMENT (T : Txt K mg) : ∃ u, mg "MOST_MOMENT" = some u ∧ RelV (.int 1000000000000000000000000000000) u := let ⟨_, X, G⟩ := T.hp; let ⟨t, e⟩ := He.int_ok X G (T.fa 63 rfl); ⟨_, e, t, rfl⟩
theorem Txt.c_LONGEST_ROW (T : Txt K mg) : ∃ u, mg "LONGEST_ROW" = some u ∧ RelV (.int 200) u := let ⟨_, X, G⟩ := T.hp; let ⟨t, e⟩ := He.int_ok X G (T.fa 64 rfl); ⟨_, e, t, rfl⟩
theorem Txt.c_LONGEST_HEAD (T : Txt K mg) : ∃ u, mg "LONGEST_HEAD" = some u ∧ RelV (.int 24) u := let ⟨_, X, G⟩ := T.hp; let ⟨t, e⟩ := He.int_ok X G (T.fa 65 rfl); ⟨_, e, t, rfl⟩
theorem Txt.c_TAILS (T : Txt K mg) : ∃ u, mg "TAILS" = some u ∧ RelV (.ref (He.ga K "TAILS")) u := let ⟨_, X, G⟩ := T.hp; ⟨_, He.glo_ok X G (T.fa 66 rfl), rfl⟩
theorem Txt.c_MOST_PARTS (T : Txt K mg) : ∃ u, mg "MOST_PARTS" = some u ∧ RelV (.int 8) u := let ⟨_, X, G⟩ := T.hp; let ⟨t, e⟩ := He.int_ok X G (T.fa 67 rfl); ⟨_, e, t, rfl⟩
theorem Txt.c_THERE (T : Txt K mg) : ∃ u, mg "THERE" = some u ∧ RelV (.str "there") u := let ⟨_, X, G⟩ := T.hp; let ⟨t, e⟩ := He.str_ok X G (T.fa 68 rfl); ⟨_, e, t, rfl⟩
theorem Txt.c_MOST_PAIRS (T : Txt K mg) : ∃ u, mg "MOST_PAIRS" = some u ∧ RelV (.int 400) u := let ⟨_, X, G⟩ := T.hp; let ⟨t, e⟩ := He.int_ok X G (T.fa 69 rfl); ⟨_, e, t, rfl⟩
theorem Txt.c_SIGNS (T : Txt K mg) : ∃ u, mg "SIGNS" = some u ∧ RelV (.str ".a") u := let ⟨_, X, G⟩ := T.hp; let ⟨t, e⟩ := He.str_ok X G (T.fa 70 rfl); ⟨_, e, t, rfl⟩
theorem Txt.cl_Wane (T : Txt K mg) : Cls K (He.ga K "Wane") := He.cls_ok (T.fa 71 rfl)
theorem Txt.n_Wane_begins (T : Txt K mg) : NoAttr K (He.ga K "Wane") "begins" := He.noat_ok (T.fa 72 rfl)
theorem Txt.n_Wane_cap_at (T : Txt K mg) : NoAttr K (He.ga K "Wane") "cap_at" := He.noat_ok (T.fa 73 rfl)
theorem Txt.n_Wane_head_steps (T : Txt K mg) : NoAttr K (He.ga K "Wane") "head_steps" := He.noat_ok (T.fa 74 rfl)
theorem Txt.n_Wane_lift_by (T : Txt K mg) : NoAttr K (He.ga K "Wane") "lift_by" := He.noat_ok (T.fa 75 rfl)
theorem Txt.n_Wane_tail_steps (T : Txt K mg) : NoAttr K (He.ga K "Wane") "tail_steps" := He.noat_ok (T.fa 76 rfl)
theorem Txt.m_Wane_cap (T : Txt K mg) : Meth K (He.ga K "Wane") "cap" (He.ma K (He.ga K "Wane") "cap") := He.meth_ok (T.fa 77 rfl)
theorem Txt.m_Wane_lift (T : Txt K mg) : Meth K (He.ga K "Wane") "lift" (He.ma K (He.ga K "Wane") "lift") := He.meth_ok (T.fa 78 rfl)
theorem Txt.m_Wane_is_anew (T : Txt K mg) : Meth K (He.ga K "Wane") "is_anew" (He.ma K (He.ga K "Wane") "is_anew") := He.meth_ok (T.fa 79 rfl)
theorem Txt.m_Wane_coming (T : Txt K mg) : Meth K (He.ga K "Wane") "coming" (He.ma K (He.ga K "Wane") "coming") := He.meth_ok (T.fa 80 rfl)
theorem Txt.m_Wane_phase_of (T : Txt K mg) : Meth K (He.ga K "Wane") "phase_of" (He.ma K (He.ga K "Wane") "phase_of") := He.meth_ok (T.fa 81 rfl)
theorem Txt.m_Wane_phase (T : Txt K mg) : Meth K (He.ga K "Wane") "phase" (He.ma K (He.ga K "Wane") "phase") := He.meth_ok (T.fa 82 rfl)
theorem Txt.mk_Wane (T : Txt K mg) : Mk K (He.ga K "Wane") (He.ma K (He.ga K "Wane") "__init__") := He.mkr_ok (T.fa 83 rfl)
theorem Txt.cl_Origins (T : Txt K mg) : Cls K (He.ga K "Origins") := He.cls_ok (T.fa 84 rfl)
theorem Txt.n_Origins_fitting (T : Txt K mg) : NoAttr K (He.ga K "Origins") "fitting" := He.noat_ok (T.fa 85 rfl)
theorem Txt.m_Origins_spans (T : Txt K mg) : Meth K (He.ga K "Origins") "spans" (He.ma K (He.ga K "Origins") "spans") := He.meth_ok (T.fa 86 rfl)
theorem Txt.m_Origins_many (T : Txt K mg) : Meth K (He.ga K "Origins") "many" (He.ma K (He.ga K "Origins") "many") := He.meth_ok (T.fa 87 rfl)
theorem Txt.m_Origins_list_of (T : Txt K mg) : Meth K (He.ga K "Origins") "list_of" (He.ma K (He.ga K "Origins") "list_of") := He.meth_ok (T.fa 88 rfl)
theorem Txt.m_Origins_number_of (T : Txt K mg) : Meth K (He.ga K "Origins") "number_of" (He.ma K (He.ga K "Origins") "number_of") := He.meth_ok (T.fa 89 rfl)
theorem Txt.mk_Origins (T : Txt K mg) : Mk K (He.ga K "Origins") (He.ma K (He.ga K "Origins") "__init__") := He.mkr_ok (T.fa 90 rfl)
theorem Txt.xf_TooMany (T : Txt K mg) : L2.XfC K (He.ga K "TooMany") := L2.xfB_ok (Bool.and_eq_true_iff.mp (T.ex 3 (f := fun K => L2.xfB K (He.ga K "TooMany") && decide (PySem.W.findIn K (.ref (He.ga K "TooMany")) "most" = some none)) rfl)).1
theorem Txt.xn_TooMany (T : Txt K mg) : PySem.W.findIn K (.ref (He.ga K "TooMany")) "most" = some none := of_decide_eq_true (Bool.and_eq_true_iff.mp (T.ex 3 (f := fun K => L2.xfB K (He.ga K "TooMany") && decide (PySem.W.findIn K (.ref (He.ga K "TooMany")) "most" = some none)) rfl)).2
theorem Txt.x_TooMany (T : Txt K mg) : OexC K (He.ga K "TooMany") := EX.oex_of (T.ex 4 rfl)
theorem Txt.xi_TooMany (T : Txt K mg) : PySem.W.findIn K (.ref (He.ga K "TooMany")) "__init__" = some (some (.ref (He.ma K (He.ga K "TooMany") "__init__"))) ∧ PySem.W.typeIn K (.ref (He.ma K (He.ga K "TooMany") "__init__")) = some (.type "function") ∧ PySem.W.exmOne K (.ref (He.ga K "TooMany")) (.ref (He.ga K "TooMany")) = some true := by
  have e := T.ex 5 (f := fun K => decide (PySem.W.findIn K (.ref (He.ga K "TooMany")) "__init__" = some (some (.ref (He.ma K (He.ga K "TooMany") "__init__")))) && (decide (PySem.W.typeIn K (.ref (He.ma K (He.ga K "TooMany") "__init__")) = some (.type "function")) && decide (PySem.W.exmOne K (.ref (He.ga K "TooMany")) (.ref (He.ga K "TooMany")) = some true))) rfl
  simp only [Bool.and_eq_true, decide_eq_true_eq] at e
  exact e
theorem Txt.n_TooMany_most (T : Txt K mg) : NoAttr K (He.ga K "TooMany") "most" := He.noat_ok (T.fa 91 rfl)
theorem Txt.xf_NoNumber (T : Txt K mg) : L2.XfC K (He.ga K "NoNumber") := L2.xfB_ok (Bool.and_eq_true_iff.mp (T.ex 6 (f := fun K => L2.xfB K (He.ga K "NoNumber") && decide (PySem.W.findIn K (.ref (He.ga K "NoNumber")) "number" = some none)) rfl)).1
theorem Txt.xn_NoNumber (T : Txt K mg) : PySem.W.findIn K (.ref (He.ga K "NoNumber")) "number" = some none := of_decide_eq_true (Bool.and_eq_true_iff.mp (T.ex 6 (f := fun K => L2.xfB K (He.ga K "NoNumber") && decide (PySem.W.findIn K (.ref (He.ga K "NoNumber")) "number" = some none)) rfl)).2
theorem Txt.x_NoNumber (T : Txt K mg) : OexC K (He.ga K "NoNumber") := EX.oex_of (T.ex 7 rfl)
theorem Txt.xi_NoNumber (T : Txt K mg) : PySem.W.findIn K (.ref (He.ga K "NoNumber")) "__init__" = some (some (.ref (He.ma K (He.ga K "NoNumber") "__init__"))) ∧ PySem.W.typeIn K (.ref (He.ma K (He.ga K "NoNumber") "__init__")) = some (.type "function") ∧ PySem.W.exmOne K (.ref (He.ga K "NoNumber")) (.ref (He.ga K "NoNumber")) = some true := by
  have e := T.ex 8 (f := fun K => decide (PySem.W.findIn K (.ref (He.ga K "NoNumber")) "__init__" = some (some (.ref (He.ma K (He.ga K "NoNumber") "__init__")))) && (decide (PySem.W.typeIn K (.ref (He.ma K (He.ga K "NoNumber") "__init__")) = some (.type "function")) && decide (PySem.W.exmOne K (.ref (He.ga K "NoNumber")) (.ref (He.ga K "NoNumber")) = some true))) rfl
  simp only [Bool.and_eq_true, decide_eq_true_eq] at e
  exact e
theorem Txt.n_NoNumber_number (T : Txt K mg) : NoAttr K (He.ga K "NoNumber") "number" := He.noat_ok (T.fa 92 rfl)
theorem Txt.x_NotOne (T : Txt K mg) : OexC K (He.ga K "NotOne") := EX.oex_of (T.ex 9 rfl)
theorem Txt.xi_NotOne (T : Txt K mg) : PySem.W.findIn K (.ref (He.ga K "NotOne")) "__init__" = some (some (.ref (He.ma K (He.ga K "NotOne") "__init__"))) ∧ PySem.W.typeIn K (.ref (He.ma K (He.ga K "NotOne") "__init__")) = some (.type "function") ∧ PySem.W.exmOne K (.ref (He.ga K "NotOne")) (.ref (He.ga K "NotOne")) = some true := by
  have e := T.ex 10 (f := fun K => decide (PySem.W.findIn K (.ref (He.ga K "NotOne")) "__init__" = some (some (.ref (He.ma K (He.ga K "NotOne") "__init__")))) && (decide (PySem.W.typeIn K (.ref (He.ma K (He.ga K "NotOne") "__init__")) = some (.type "function")) && decide (PySem.W.exmOne K (.ref (He.ga K "NotOne")) (.ref (He.ga K "NotOne")) = some true))) rfl
  simp only [Bool.and_eq_true, decide_eq_true_eq] at e
  exact e
theorem Txt.bin (T : Txt K mg) : EX.binB K (He.ga K "WaneError") = true := T.ex 11 (f := fun K => EX.binB K (He.ga K "WaneError")) rfl
theorem Txt.f_TooMany___init__ (T : Txt K mg) : ∃ fd, FunD K d_TooMany___init__.name d_TooMany___init__.qual d_TooMany___init__.params d_TooMany___init__.body d_TooMany___init__.scope (d_TooMany___init__.dvs K) (d_TooMany___init__.kws K) (He.fAd K d_TooMany___init__.at_) fd := T.fn 0 d_TooMany___init__ rfl
theorem Txt.f_NoNumber___init__ (T : Txt K mg) : ∃ fd, FunD K d_NoNumber___init__.name d_NoNumber___init__.qual d_NoNumber___init__.params d_NoNumber___init__.body d_NoNumber___init__.scope (d_NoNumber___init__.dvs K) (d_NoNumber___init__.kws K) (He.fAd K d_NoNumber___init__.at_) fd := T.fn 1 d_NoNumber___init__ rfl
theorem Txt.f_NotOne___init__ (T : Txt K mg) : ∃ fd, FunD K d_NotOne___init__.name d_NotOne___init__.qual d_NotOne___init__.params d_NotOne___init__.body d_NotOne___init__.scope (d_NotOne___init__.dvs K) (d_NotOne___init__.kws K) (He.fAd K d_NotOne___init__.at_) fd := T.fn 2 d_NotOne___init__ rfl
theorem Txt.f_is_whole (T : Txt K mg) : ∃ fd, FunD K d_is_whole.name d_is_whole.qual d_is_whole.params d_is_whole.body d_is_whole.scope (d_is_whole.dvs K) (d_is_whole.kws K) (He.fAd K d_is_whole.at_) fd := T.fn 3 d_is_whole rfl
theorem Txt.f_is_within (T : Txt K mg) : ∃ fd, FunD K d_is_within.name d_is_within.qual d_is_within.params d_is_within.body d_is_within.scope (d_is_within.dvs K) (d_is_within.kws K) (He.fAd K d_is_within.at_) fd := T.fn 4 d_is_within rfl
theorem Txt.f_is_strength (T : Txt K mg) : ∃ fd, FunD K d_is_strength.name d_is_strength.qual d_is_strength.params d_is_strength.body d_is_strength.scope (d_is_strength.dvs K) (d_is_strength.kws K) (He.fAd K d_is_strength.at_) fd := T.fn 5 d_is_strength rfl
theorem Txt.f_is_size (T : Txt K mg) : ∃ fd, FunD K d_is_size.name d_is_size.qual d_is_size.params d_is_size.body d_is_size.scope (d_is_size.dvs K) (d_is_size.kws K) (He.fAd K d_is_size.at_) fd := T.fn 6 d_is_size rfl
theorem Txt.f_is_moment (T : Txt K mg) : ∃ fd, FunD K d_is_moment.name d_is_moment.qual d_is_moment.params d_is_moment.body d_is_moment.scope (d_is_moment.dvs K) (d_is_moment.kws K) (He.fAd K d_is_moment.at_) fd := T.fn 7 d_is_moment rfl
theorem Txt.f_is_row (T : Txt K mg) : ∃ fd, FunD K d_is_row.name d_is_row.qual d_is_row.params d_is_row.body d_is_row.scope (d_is_row.dvs K) (d_is_row.kws K) (He.fAd K d_is_row.at_) fd := T.fn 8 d_is_row rfl
theorem Txt.f_is_step (T : Txt K mg) : ∃ fd, FunD K d_is_step.name d_is_step.qual d_is_step.params d_is_step.body d_is_step.scope (d_is_step.dvs K) (d_is_step.kws K) (He.fAd K d_is_step.at_) fd := T.fn 9 d_is_step rfl
theorem Txt.f_is_head (T : Txt K mg) : ∃ fd, FunD K d_is_head.name d_is_head.qual d_is_head.params d_is_head.body d_is_head.scope (d_is_head.dvs K) (d_is_head.kws K) (He.fAd K d_is_head.at_) fd := T.fn 10 d_is_head rfl
theorem Txt.f_is_tail (T : Txt K mg) : ∃ fd, FunD K d_is_tail.name d_is_tail.qual d_is_tail.params d_is_tail.body d_is_tail.scope (d_is_tail.dvs K) (d_is_tail.kws K) (He.fAd K d_is_tail.at_) fd := T.fn 11 d_is_tail rfl
theorem Txt.f_Wane___init__ (T : Txt K mg) : ∃ fd, FunD K d_Wane___init__.name d_Wane___init__.qual d_Wane___init__.params d_Wane___init__.body d_Wane___init__.scope (d_Wane___init__.dvs K) (d_Wane___init__.kws K) (He.fAd K d_Wane___init__.at_) fd := T.fn 12 d_Wane___init__ rfl
theorem Txt.f_Wane_cap (T : Txt K mg) : ∃ fd, FunD K d_Wane_cap.name d_Wane_cap.qual d_Wane_cap.params d_Wane_cap.body d_Wane_cap.scope (d_Wane_cap.dvs K) (d_Wane_cap.kws K) (He.fAd K d_Wane_cap.at_) fd := T.fn 13 d_Wane_cap rfl
theorem Txt.f_Wane_lift (T : Txt K mg) : ∃ fd, FunD K d_Wane_lift.name d_Wane_lift.qual d_Wane_lift.params d_Wane_lift.body d_Wane_lift.scope (d_Wane_lift.dvs K) (d_Wane_lift.kws K) (He.fAd K d_Wane_lift.at_) fd := T.fn 14 d_Wane_lift rfl
theorem Txt.f_Wane_is_anew (T : Txt K mg) : ∃ fd, FunD K d_Wane_is_anew.name d_Wane_is_anew.qual d_Wane_is_anew.params d_Wane_is_anew.body d_Wane_is_anew.scope (d_Wane_is_anew.dvs K) (d_Wane_is_anew.kws K) (He.fAd K d_Wane_is_anew.at_) fd := T.fn 15 d_Wane_is_anew rfl
theorem Txt.f_Wane_coming (T : Txt K mg) : ∃ fd, FunD K d_Wane_coming.name d_Wane_coming.qual d_Wane_coming.params d_Wane_coming.body d_Wane_coming.scope (d_Wane_coming.dvs K) (d_Wane_coming.kws K) (He.fAd K d_Wane_coming.at_) fd := T.fn 16 d_Wane_coming rfl
theorem Txt.f_Wane_phase_of (T : Txt K mg) : ∃ fd, FunD K d_Wane_phase_of.name d_Wane_phase_of.qual d_Wane_phase_of.params d_Wane_phase_of.body d_Wane_phase_of.scope (d_Wane_phase_of.dvs K) (d_Wane_phase_of.kws K) (He.fAd K d_Wane_phase_of.at_) fd := T.fn 17 d_Wane_phase_of rfl
theorem Txt.f_Wane_phase (T : Txt K mg) : ∃ fd, FunD K d_Wane_phase.name d_Wane_phase.qual d_Wane_phase.params d_Wane_phase.body d_Wane_phase.scope (d_Wane_phase.dvs K) (d_Wane_phase.kws K) (He.fAd K d_Wane_phase.at_) fd := T.fn 18 d_Wane_phase rfl
theorem Txt.f_turn_effect (T : Txt K mg) : ∃ fd, FunD K d_turn_effect.name d_turn_effect.qual d_turn_effect.params d_turn_effect.body d_turn_effect.scope (d_turn_effect.dvs K) (d_turn_effect.kws K) (He.fAd K d_turn_effect.at_) fd := T.fn 19 d_turn_effect rfl
theorem Txt.f_join_two (T : Txt K mg) : ∃ fd, FunD K d_join_two.name d_join_two.qual d_join_two.params d_join_two.body d_join_two.scope (d_join_two.dvs K) (d_join_two.kws K) (He.fAd K d_join_two.at_) fd := T.fn 20 d_join_two rfl
theorem Txt.f_row_effect (T : Txt K mg) : ∃ fd, FunD K d_row_effect.name d_row_effect.qual d_row_effect.params d_row_effect.body d_row_effect.scope (d_row_effect.dvs K) (d_row_effect.kws K) (He.fAd K d_row_effect.at_) fd := T.fn 21 d_row_effect rfl
theorem Txt.f_effect_of (T : Txt K mg) : ∃ fd, FunD K d_effect_of.name d_effect_of.qual d_effect_of.params d_effect_of.body d_effect_of.scope (d_effect_of.dvs K) (d_effect_of.kws K) (He.fAd K d_effect_of.at_) fd := T.fn 22 d_effect_of rfl
theorem Txt.f_is_seen (T : Txt K mg) : ∃ fd, FunD K d_is_seen.name d_is_seen.qual d_is_seen.params d_is_seen.body d_is_seen.scope (d_is_seen.dvs K) (d_is_seen.kws K) (He.fAd K d_is_seen.at_) fd := T.fn 23 d_is_seen rfl
theorem Txt.f_is_part (T : Txt K mg) : ∃ fd, FunD K d_is_part.name d_is_part.qual d_is_part.params d_is_part.body d_is_part.scope (d_is_part.dvs K) (d_is_part.kws K) (He.fAd K d_is_part.at_) fd := T.fn 24 d_is_part rfl
theorem Txt.f_cut (T : Txt K mg) : ∃ fd, FunD K d_cut.name d_cut.qual d_cut.params d_cut.body d_cut.scope (d_cut.dvs K) (d_cut.kws K) (He.fAd K d_cut.at_) fd := T.fn 25 d_cut rfl
theorem Txt.f_span_of (T : Txt K mg) : ∃ fd, FunD K d_span_of.name d_span_of.qual d_span_of.params d_span_of.body d_span_of.scope (d_span_of.dvs K) (d_span_of.kws K) (He.fAd K d_span_of.at_) fd := T.fn 26 d_span_of rfl
theorem Txt.f_width (T : Txt K mg) : ∃ fd, FunD K d_width.name d_width.qual d_width.params d_width.body d_width.scope (d_width.dvs K) (d_width.kws K) (He.fAd K d_width.at_) fd := T.fn 27 d_width rfl
theorem Txt.f_Origins___init__ (T : Txt K mg) : ∃ fd, FunD K d_Origins___init__.name d_Origins___init__.qual d_Origins___init__.params d_Origins___init__.body d_Origins___init__.scope (d_Origins___init__.dvs K) (d_Origins___init__.kws K) (He.fAd K d_Origins___init__.at_) fd := T.fn 28 d_Origins___init__ rfl
theorem Txt.f_Origins_spans (T : Txt K mg) : ∃ fd, FunD K d_Origins_spans.name d_Origins_spans.qual d_Origins_spans.params d_Origins_spans.body d_Origins_spans.scope (d_Origins_spans.dvs K) (d_Origins_spans.kws K) (He.fAd K d_Origins_spans.at_) fd := T.fn 29 d_Origins_spans rfl
theorem Txt.f_Origins_many (T : Txt K mg) : ∃ fd, FunD K d_Origins_many.name d_Origins_many.qual d_Origins_many.params d_Origins_many.body d_Origins_many.scope (d_Origins_many.dvs K) (d_Origins_many.kws K) (He.fAd K d_Origins_many.at_) fd := T.fn 30 d_Origins_many rfl
theorem Txt.f_Origins_list_of (T : Txt K mg) : ∃ fd, FunD K d_Origins_list_of.name d_Origins_list_of.qual d_Origins_list_of.params d_Origins_list_of.body d_Origins_list_of.scope (d_Origins_list_of.dvs K) (d_Origins_list_of.kws K) (He.fAd K d_Origins_list_of.at_) fd := T.fn 31 d_Origins_list_of rfl
theorem Txt.f_Origins_number_of (T : Txt K mg) : ∃ fd, FunD K d_Origins_number_of.name d_Origins_number_of.qual d_Origins_number_of.params d_Origins_number_of.body d_Origins_number_of.scope (d_Origins_number_of.dvs K) (d_Origins_number_of.kws K) (He.fAd K d_Origins_number_of.at_) fd := T.fn 32 d_Origins_number_of rfl
theorem Txt.f_check_part (T : Txt K mg) : ∃ fd, FunD K d_check_part.name d_check_part.qual d_check_part.params d_check_part.body d_check_part.scope (d_check_part.dvs K) (d_check_part.kws K) (He.fAd K d_check_part.at_) fd := T.fn 33 d_check_part rfl
theorem Txt.f_turned (T : Txt K mg) : ∃ fd, FunD K d_turned.name d_turned.qual d_turned.params d_turned.body d_turned.scope (d_turned.dvs K) (d_turned.kws K) (He.fAd K d_turned.at_) fd := T.fn 34 d_turned rfl
theorem Txt.f_asked (T : Txt K mg) : ∃ fd, FunD K d_asked.name d_asked.qual d_asked.params d_asked.body d_asked.scope (d_asked.dvs K) (d_asked.kws K) (He.fAd K d_asked.at_) fd := T.fn 35 d_asked rfl
theorem Txt.f_waned (T : Txt K mg) : ∃ fd, FunD K d_waned.name d_waned.qual d_waned.params d_waned.body d_waned.scope (d_waned.dvs K) (d_waned.kws K) (He.fAd K d_waned.at_) fd := T.fn 36 d_waned rfl
theorem Txt.f_lifted (T : Txt K mg) : ∃ fd, FunD K d_lifted.name d_lifted.qual d_lifted.params d_lifted.body d_lifted.scope (d_lifted.dvs K) (d_lifted.kws K) (He.fAd K d_lifted.at_) fd := T.fn 37 d_lifted rfl
theorem Txt.f_need_asked (T : Txt K mg) : ∃ fd, FunD K d_need_asked.name d_need_asked.qual d_need_asked.params d_need_asked.body d_need_asked.scope (d_need_asked.dvs K) (d_need_asked.kws K) (He.fAd K d_need_asked.at_) fd := T.fn 38 d_need_asked rfl
theorem Txt.f_led (T : Txt K mg) : ∃ fd, FunD K d_led.name d_led.qual d_led.params d_led.body d_led.scope (d_led.dvs K) (d_led.kws K) (He.fAd K d_led.at_) fd := T.fn 39 d_led rfl
theorem Txt.f_alike (T : Txt K mg) : ∃ fd, FunD K d_alike.name d_alike.qual d_alike.params d_alike.body d_alike.scope (d_alike.dvs K) (d_alike.kws K) (He.fAd K d_alike.at_) fd := T.fn 40 d_alike rfl
theorem Txt.f__law_bag (T : Txt K mg) : ∃ fd, FunD K d__law_bag.name d__law_bag.qual d__law_bag.params d__law_bag.body d__law_bag.scope (d__law_bag.dvs K) (d__law_bag.kws K) (He.fAd K d__law_bag.at_) fd := T.fn 41 d__law_bag rfl
theorem Txt.f__law_take (T : Txt K mg) : ∃ fd, FunD K d__law_take.name d__law_take.qual d__law_take.params d__law_take.body d__law_take.scope (d__law_take.dvs K) (d__law_take.kws K) (He.fAd K d__law_take.at_) fd := T.fn 42 d__law_take rfl
theorem Txt.f__law_alike (T : Txt K mg) : ∃ fd, FunD K d__law_alike.name d__law_alike.qual d__law_alike.params d__law_alike.body d__law_alike.scope (d__law_alike.dvs K) (d__law_alike.kws K) (He.fAd K d__law_alike.at_) fd := T.fn 43 d__law_alike rfl
theorem Txt.f__law_signs (T : Txt K mg) : ∃ fd, FunD K d__law_signs.name d__law_signs.qual d__law_signs.params d__law_signs.body d__law_signs.scope (d__law_signs.dvs K) (d__law_signs.kws K) (He.fAd K d__law_signs.at_) fd := T.fn 44 d__law_signs rfl
theorem Txt.f__law_told (T : Txt K mg) : ∃ fd, FunD K d__law_told.name d__law_told.qual d__law_told.params d__law_told.body d__law_told.scope (d__law_told.dvs K) (d__law_told.kws K) (He.fAd K d__law_told.at_) fd := T.fn 45 d__law_told rfl
theorem Txt.f__law_parts (T : Txt K mg) : ∃ fd, FunD K d__law_parts.name d__law_parts.qual d__law_parts.params d__law_parts.body d__law_parts.scope (d__law_parts.dvs K) (d__law_parts.kws K) (He.fAd K d__law_parts.at_) fd := T.fn 46 d__law_parts rfl
theorem Txt.f__law_spoilt (T : Txt K mg) : ∃ fd, FunD K d__law_spoilt.name d__law_spoilt.qual d__law_spoilt.params d__law_spoilt.body d__law_spoilt.scope (d__law_spoilt.dvs K) (d__law_spoilt.kws K) (He.fAd K d__law_spoilt.at_) fd := T.fn 47 d__law_spoilt rfl
theorem Txt.f__law_asked (T : Txt K mg) : ∃ fd, FunD K d__law_asked.name d__law_asked.qual d__law_asked.params d__law_asked.body d__law_asked.scope (d__law_asked.dvs K) (d__law_asked.kws K) (He.fAd K d__law_asked.at_) fd := T.fn 48 d__law_asked rfl
theorem Txt.f__law_number (T : Txt K mg) : ∃ fd, FunD K d__law_number.name d__law_number.qual d__law_number.params d__law_number.body d__law_number.scope (d__law_number.dvs K) (d__law_number.kws K) (He.fAd K d__law_number.at_) fd := T.fn 49 d__law_number rfl
theorem Txt.f__law_steps (T : Txt K mg) : ∃ fd, FunD K d__law_steps.name d__law_steps.qual d__law_steps.params d__law_steps.body d__law_steps.scope (d__law_steps.dvs K) (d__law_steps.kws K) (He.fAd K d__law_steps.at_) fd := T.fn 50 d__law_steps rfl
theorem Txt.f__law_plan (T : Txt K mg) : ∃ fd, FunD K d__law_plan.name d__law_plan.qual d__law_plan.params d__law_plan.body d__law_plan.scope (d__law_plan.dvs K) (d__law_plan.kws K) (He.fAd K d__law_plan.at_) fd := T.fn 51 d__law_plan rfl
theorem Txt.f__law_made (T : Txt K mg) : ∃ fd, FunD K d__law_made.name d__law_made.qual d__law_made.params d__law_made.body d__law_made.scope (d__law_made.dvs K) (d__law_made.kws K) (He.fAd K d__law_made.at_) fd := T.fn 52 d__law_made rfl
theorem Txt.f__law_two (T : Txt K mg) : ∃ fd, FunD K d__law_two.name d__law_two.qual d__law_two.params d__law_two.body d__law_two.scope (d__law_two.dvs K) (d__law_two.kws K) (He.fAd K d__law_two.at_) fd := T.fn 53 d__law_two rfl
theorem Txt.f__law_long (T : Txt K mg) : ∃ fd, FunD K d__law_long.name d__law_long.qual d__law_long.params d__law_long.body d__law_long.scope (d__law_long.dvs K) (d__law_long.kws K) (He.fAd K d__law_long.at_) fd := T.fn 54 d__law_long rfl
theorem Txt.f_law (T : Txt K mg) : ∃ fd, FunD K d_law.name d_law.qual d_law.params d_law.body d_law.scope (d_law.dvs K) (d_law.kws K) (He.fAd K d_law.at_) fd := T.fn 55 d_law rfl
end
end WH

set_option maxHeartbeats 4000000
namespace WH
open PySem PySem.Spec PyProof.Rows L2
/-! ### defs by their data -/
section
variable {P : Program} {w : World} {K : PySem.W.Frag} {mg : Str → Option Value} {base : Heap}
abbrev FD (K : PySem.W.Frag) (d : He.DefD) (fd : FuncData) : Prop := FunD K d.name d.qual d.params d.body d.scope (d.dvs K) (d.kws K) (He.fAd K d.at_) fd
theorem calD {d : He.DefD} {x : Str} {N ps : List Str} {k : Nat} {sp : Sp} (F : ∃ fd, FD K d fd) (hx : mg x = some (.ref (He.fAd K d.at_))) (S : FnScope N ps d.scope) (b : ∀ fd, FD K d fd → Binds K fd ps []) (len : ∀ vs H Q E, sp vs H Q E → vs.length = ps.length)
    (hbody : ∀ (cdv : Value) (A : Around) (outer : List Env) (s : Shared) (H : Hp) (vs : List V) (Q : VK) (E : XK), Room k (A.deeper (envOfC d.qual d.scope s.heap.objs.size (He.fAd K d.at_) cdv)) → sp vs H Q E →
      ∃ t, PSs (cxOf C8.CX0 P w K mg base N d.qual d.scope (He.fAd K d.at_) cdv A outer s H E).nox d.body t ∧ t { nx := fun _ H' => Q .non H', rt := Q } (start N vs) H) : C8.Cal P w K mg base (k + 1) x sp [] := by
  obtain ⟨fd, F⟩ := F
  exact ⟨_, fd, ps, [], F.ok S len fun cdv A outer s H vs Q E hr h => (let ⟨t, p, q⟩ := hbody cdv A outer s H vs Q E hr h; ⟨t, p.nox, q⟩), hx, F.kp, b fd F, .nil⟩
theorem metD {d : He.DefD} {m : Str} {C : Addr} {N ps : List Str} {k : Nat} {sp : Sp} (F : ∃ fd, FD K d fd) (c : Cls K C) (me : Meth K C m (He.fAd K d.at_)) (S : FnScope N ps d.scope) (b : ∀ fd, FD K d fd → Binds K fd ps []) (len : ∀ vs H Q E, sp vs H Q E → vs.length = ps.length)
    (hbody : ∀ (cdv : Value) (A : Around) (outer : List Env) (s : Shared) (H : Hp) (vs : List V) (Q : VK) (E : XK), Room k (A.deeper (envOfC d.qual d.scope s.heap.objs.size (He.fAd K d.at_) cdv)) → sp vs H Q E →
      ∃ t, PSs (cxOf C8.CX0 P w K mg base N d.qual d.scope (He.fAd K d.at_) cdv A outer s H E).nox d.body t ∧ t { nx := fun _ H' => Q .non H', rt := Q } (start N vs) H) : C8.Met P w K mg base (k + 1) C m sp [] := by
  obtain ⟨fd, F⟩ := F
  exact ⟨_, fd, ps, [], c, me, F.ok S len fun cdv A outer s H vs Q E hr h => (let ⟨t, p, q⟩ := hbody cdv A outer s H vs Q E hr h; ⟨t, p.nox, q⟩), b fd F, .nil⟩
/-! ### what is known of a value's type -/
def Knw (K : PySem.W.Frag) (H : Hp) (v : V) : Prop := ∃ t, TyX K H v t ∧ t ∈ tys K
theorem Txt.kit (T : Txt K mg) {t c : Value} (ht : t ∈ tys K) (hc : c ∈ cls K) : PySem.W.kitOne K t c = some (isk t c) := by
  have e := T.ex 0 (f := kitAll) rfl
  simp only [kitAll, Bool.and_eq_true] at e
  exact of_decide_eq_true (List.all_eq_true.mp (List.all_eq_true.mp e.1 t ht) c hc)
def isI : V → Bool
  | .int _ => true
  | _ => false
def isB : V → Bool
  | .bl _ => true
  | _ => false
theorem isk_int {H : Hp} {v : V} {t : Value} (h : TyX K H v t) : (isk t (.type "int") && !isk t (.type "bool")) = isI v := by
  cases h with
  | base h => cases h <;> simp [isk, isI]
  | _ => simp [isk, isI]
theorem knw_int {H : Hp} (i : Int) : Knw K H (.int i) := ⟨_, .base (.int i), by simp [tys]⟩
theorem knw_bl {H : Hp} (b : Bool) : Knw K H (.bl b) := ⟨_, .base (.bl b), by simp [tys]⟩
theorem knw_non {H : Hp} : Knw K H .non := ⟨_, .base .non, by simp [tys]⟩
theorem knw_str {H : Hp} (x : Str) : Knw K H (.str x) := ⟨_, .base (.str x), by simp [tys]⟩
theorem knw_lst {H : Hp} {a : Addr} {xs : List V} (h : H a = some (.lst xs)) : Knw K H (.ref a) := ⟨_, .base (.lst h), by simp [tys]⟩
theorem knw_tup {H : Hp} {a : Addr} {xs : List V} (h : H a = some (.tup xs)) : Knw K H (.ref a) := ⟨_, .base (.tup h), by simp [tys]⟩
/-! ### kinds -/
def spWhole (K : PySem.W.Frag) : Sp := fun vs H Q _ => ∃ v, vs = [v] ∧ Knw K H v ∧ Q (.bl (isI v)) H
theorem cal_is_whole (T : Txt K mg) : C8.Cal P w K mg base 1 "is_whole" (spWhole K) [] := by
  refine calD T.f_is_whole T.g_is_whole sc_is_whole (fun fd F => F.bindsN fun _ _ _ _ _ _ us hl => match us, hl with | [_], _ => rfl) (fun vs H Q E h => by obtain ⟨v, rfl, _⟩ := h; rfl) fun cdv A outer s H vs Q E hr h => ?_
  obtain ⟨v, rfl, ⟨t, ht, hm⟩, q⟩ := h
  refine ⟨_, (pss_one (ps_ret (pe_and (pe_callB call_isi (by rfl) T.b_isinstance (by decide +kernel) (pa_cons (pv 0) (pa_cons (pe_bltn (v := .ty "int") (by rfl) T.b_int (by decide +kernel) rfl) pa_nil))) (pe_one (pe_not (pe_callB call_isi (by rfl) T.b_isinstance (by decide +kernel) (pa_cons (pv 0) (pa_cons (pe_bltn (v := .ty "bool") (by rfl) T.b_bool (by decide +kernel) rfl) pa_nil)))))))), ?_⟩
  refine ⟨_, rfl, _, _, t, _, _, rfl, .ty _, ht, T.kit hm (by simp [cls]), _, rfl, ?_⟩
  have e := isk_int ht
  cases e1 : isk t (.type "int") with
  | true =>
    rw [e1, Bool.true_and] at e
    refine iteT ⟨_, rfl, _, _, t, _, _, rfl, .ty _, ht, T.kit hm (by simp [cls]), _, rfl, ?_⟩
    show Q (.bl (!isk t (.type "bool"))) H
    rw [e]; exact q
  | false =>
    rw [e1, Bool.false_and] at e
    refine iteF ?_
    show Q (.bl false) H
    rw [e]; exact q
def wi (v : V) (lo hi : Int) : Bool := match v with
  | .int i => decide (lo ≤ i) && decide (i ≤ hi)
  | _ => false
theorem wi_int {i lo hi : Int} (h1 : lo ≤ i) (h2 : i ≤ hi) : wi (.int i) lo hi = true := by simp [wi, h1, h2]
theorem wi_true {v : V} {lo hi : Int} (h : wi v lo hi = true) : ∃ i, v = .int i ∧ lo ≤ i ∧ i ≤ hi := by
  cases v with
  | int i => simp [wi] at h; exact ⟨i, rfl, h⟩
  | _ => simp [wi] at h
def spWithin (K : PySem.W.Frag) : Sp := fun vs H Q _ => ∃ v lo hi, vs = [v, .int lo, .int hi] ∧ Knw K H v ∧ Q (.bl (wi v lo hi)) H
theorem cal_is_within (T : Txt K mg) : C8.Cal P w K mg base 2 "is_within" (spWithin K) [] := by
  refine calD T.f_is_within T.g_is_within sc_is_within (fun fd F => F.bindsN fun _ _ _ _ _ _ us hl => match us, hl with | [_, _, _], _ => rfl) (fun vs H Q E h => by obtain ⟨v, _, _, rfl, _⟩ := h; rfl) fun cdv A outer s H vs Q E hr h => ?_
  obtain ⟨v, lo, hi, rfl, hv, q⟩ := h
  refine ⟨_, (pss_one (ps_ret (pe_and (C8.pe_c (cal_is_whole T) hr (by decide) rfl (pa_cons (pv 0) pa_nil)) (pe_one (pe_chain op_le op_le (pv 1) (pv 0) (pv 2)))))), ?_⟩
  refine ⟨_, rfl, v, rfl, hv, _, rfl, ?_⟩
  cases v with
  | int i =>
    refine iteT ⟨_, rfl, _, rfl, _, _, rfl, rfl, _, rfl, ite2 (fun c => ?_) fun c => ?_⟩
    · refine ⟨_, rfl, _, _, rfl, rfl, ?_⟩
      have e : wi (.int i) lo hi = decide (i ≤ hi) := by simp [wi, of_decide_eq_true c]
      rw [e] at q; exact q
    · have e : wi (.int i) lo hi = false := by simp [wi]; intro z; exact absurd (decide_eq_true z) c
      rw [e] at q; exact q
  | _ => exact iteF q
/-- a kind between two written bounds -/
def spKind (K : PySem.W.Frag) (lo hi : Int) : Sp := fun vs H Q _ => ∃ v, vs = [v] ∧ Knw K H v ∧ Q (.bl (wi v lo hi)) H
theorem cal_is_strength (T : Txt K mg) : C8.Cal P w K mg base 3 "is_strength" (spKind K 1 1000000000) [] := by
  refine calD T.f_is_strength T.g_is_strength sc_is_strength (fun fd F => F.bindsN fun _ _ _ _ _ _ us hl => match us, hl with | [_], _ => rfl) (fun vs H Q E h => by obtain ⟨v, rfl, _⟩ := h; rfl) fun cdv A outer s H vs Q E hr h => ?_
  obtain ⟨v, rfl, hv, q⟩ := h
  exact ⟨_, (pss_one (ps_ret (C8.pe_c (cal_is_within T) hr (by decide) rfl (pa_cons (pv 0) (pa_cons pe_int (pa_cons (C8.pe_gc rfl T.c_MOST_STRENGTH) pa_nil)))))), ⟨_, rfl, v, _, _, rfl, hv, q⟩⟩
theorem cal_is_size (T : Txt K mg) : C8.Cal P w K mg base 3 "is_size" (spKind K 0 1000000000) [] := by
  refine calD T.f_is_size T.g_is_size sc_is_size (fun fd F => F.bindsN fun _ _ _ _ _ _ us hl => match us, hl with | [_], _ => rfl) (fun vs H Q E h => by obtain ⟨v, rfl, _⟩ := h; rfl) fun cdv A outer s H vs Q E hr h => ?_
  obtain ⟨v, rfl, hv, q⟩ := h
  exact ⟨_, (pss_one (ps_ret (C8.pe_c (cal_is_within T) hr (by decide) rfl (pa_cons (pv 0) (pa_cons pe_int (pa_cons (C8.pe_gc rfl T.c_MOST_STRENGTH) pa_nil)))))), ⟨_, rfl, v, _, _, rfl, hv, q⟩⟩
theorem cal_is_moment (T : Txt K mg) : C8.Cal P w K mg base 3 "is_moment" (spKind K 0 1000000000000000000000000000000) [] := by
  refine calD T.f_is_moment T.g_is_moment sc_is_moment (fun fd F => F.bindsN fun _ _ _ _ _ _ us hl => match us, hl with | [_], _ => rfl) (fun vs H Q E h => by obtain ⟨v, rfl, _⟩ := h; rfl) fun cdv A outer s H vs Q E hr h => ?_
  obtain ⟨v, rfl, hv, q⟩ := h
  exact ⟨_, (pss_one (ps_ret (C8.pe_c (cal_is_within T) hr (by decide) rfl (pa_cons (pv 0) (pa_cons pe_int (pa_cons (C8.pe_gc rfl T.c_MOST_MOMENT) pa_nil)))))), ⟨_, rfl, v, _, _, rfl, hv, q⟩⟩
/-- a step, as it is -/
def okS (x : Int × Int) : Prop := 1 ≤ x.1 ∧ x.1 ≤ 9 ∧ 0 ≤ x.2 ∧ x.2 ≤ 1000000000
def StepV (H : Hp) (v : V) (x : Int × Int) : Prop := ∃ b, v = .ref b ∧ H b = some (.tup [.int x.1, .int x.2])
/-- a list of steps -/
def Steps (H : Hp) (a : Addr) (xs : List (Int × Int)) : Prop := ∃ vs, H a = some (.lst vs) ∧ Paired (StepV H) vs xs
def spStep (K : PySem.W.Frag) : Sp := fun vs H Q _ => ∃ v x, vs = [v] ∧ StepV H v x ∧ okS x ∧ Q (.bl true) H
theorem cal_is_step (T : Txt K mg) : C8.Cal P w K mg base 4 "is_step" (spStep K) [] := by
  refine calD T.f_is_step T.g_is_step sc_is_step (fun fd F => F.bindsN fun _ _ _ _ _ _ us hl => match us, hl with | [_], _ => rfl) (fun vs H Q E h => by obtain ⟨_, _, rfl, _⟩ := h; rfl) fun cdv A outer s H vs Q E hr h => ?_
  refine ⟨_, (pss_one (ps_ret (pe_and (pe_callB call_isi (by rfl) T.b_isinstance (by decide +kernel) (pa_cons (pv 0) (pa_cons (pe_bltn (v := .ty "tuple") (by rfl) T.b_tuple (by decide +kernel) rfl) pa_nil))) (pe_and (pe_cmpR op_eq (pe_callB call_len (by rfl) T.b_len (by decide +kernel) (pa_cons (pv 0) pa_nil)) pe_int (nomark _)) (pe_and (C8.pe_c (cal_is_within T) hr (by decide) rfl (pa_cons (pe_ix ix_tup (pv 0) pe_int (fun _ _ => rfl)) (pa_cons pe_int (pa_cons pe_int pa_nil)))) (pe_one (C8.pe_c (cal_is_size T) hr (by decide) rfl (pa_cons (pe_ix ix_tup (pv 0) pe_int (fun _ _ => rfl)) pa_nil)))))))), ?_⟩
  obtain ⟨_, ⟨b, t⟩, rfl, ⟨a, rfl, ha⟩, ⟨b1, b2, t1, t2⟩, q⟩ := h
  refine ⟨_, rfl, _, _, .type "tuple", _, _, rfl, .ty _, .base (.tup ha), T.kit (by simp [tys]) (by simp [cls]), _, rfl, ?_⟩
  refine iteT ⟨_, rfl, _, 2, rfl, .inr ⟨_, .of ha, rfl⟩, rfl, _, rfl, iteT ⟨_, rfl, _, _, _, _, rfl, rfl, .of ha, rfl, _, _, _, rfl, knw_int _, _, rfl, ?_⟩⟩
  rw [wi_int b1 b2]
  refine iteT ⟨_, rfl, _, _, _, _, rfl, rfl, .of ha, rfl, _, rfl, knw_int _, ?_⟩
  rw [wi_int t1 t2]
  exact q
/-! ### lists of steps -/
theorem same_new {H : Hp} {p : Addr} {o : HO} (h : H p = none) : Same H (upd H p o) := fun b u e => by rw [upd_ne (ne_of_none e h)]; exact e
theorem Same.mut {H H' : Hp} {p : Addr} {o : HO} (e : Same H H') (h : H p = none) : Same H (upd H' p o) := fun a u ha => by
  rw [upd_ne (ne_of_none ha h)]
  exact e a u ha
theorem StepV.mono {H H' : Hp} (s : Same H H') {v : V} {x : Int × Int} : StepV H v x → StepV H' v x := fun ⟨b, e, h⟩ => ⟨b, e, s _ _ h⟩
theorem Steps.mono {H H' : Hp} (s : Same H H') {a : Addr} {xs : List (Int × Int)} : Steps H a xs → Steps H' a xs := fun ⟨vs, h, p⟩ => ⟨vs, s _ _ h, Paired.mapP p fun _ _ => StepV.mono s⟩
theorem paired_get {α β : Type} {F : α → β → Prop} : ∀ {xs : List α} {ys : List β} {i : Nat} {x : α}, Paired F xs ys → xs[i]? = some x → ∃ y, ys[i]? = some y ∧ F x y
  | _, _, _, _, .nil, e => by simp at e
  | _, _, 0, _, .cons r _, e => by simp at e; subst e; exact ⟨_, rfl, r⟩
  | _, _, i + 1, x, .cons _ t, e => by
    obtain ⟨u, h1, h2⟩ := paired_get (i := i) (x := x) t (by simpa using e)
    exact ⟨u, by simpa using h1, h2⟩
theorem paired_len {α β : Type} {F : α → β → Prop} : ∀ {xs : List α} {ys : List β}, Paired F xs ys → xs.length = ys.length
  | _, _, .nil => rfl
  | _, _, .cons _ t => congrArg Nat.succ (paired_len t)
/-- is_head, is_tail: a list of good steps -/
def spHead (K : PySem.W.Frag) : Sp := fun vs H Q _ => ∃ a xs, vs = [.ref a] ∧ Steps H a xs ∧ (∀ x ∈ xs, okS x) ∧ xs.length ≤ 24 ∧ ∀ H', Same H H' → Q (.bl true) H'
theorem all_true (n : Nat) : (List.replicate n true).all id = true := by simp
theorem cal_is_head (T : Txt K mg) : C8.Cal P w K mg base 5 "is_head" (spHead K) [] := by
  refine calD T.f_is_head T.g_is_head sc_is_head (fun fd F => F.bindsN fun _ _ _ _ _ _ us hl => match us, hl with | [_], _ => rfl) (fun vs H Q E h => by obtain ⟨_, _, rfl, _⟩ := h; rfl) fun cdv A outer s H vs Q E hr h => ?_
  refine ⟨_, (pss_one (ps_ret (pe_and (pe_callB call_isi (by rfl) T.b_isinstance (by decide +kernel) (pa_cons (pv 0) (pa_cons (pe_bltn (v := .ty "list") (by rfl) T.b_list (by decide +kernel) rfl) pa_nil))) (pe_and (pe_cmpR op_le (pe_callB call_len (by rfl) T.b_len (by decide +kernel) (pa_cons (pv 0) pa_nil)) (C8.pe_gc rfl T.c_LONGEST_HEAD) (nomark _)) (pe_one (pe_callB (cr_all rfl) (by rfl) T.b_all (by decide +kernel) (pa_cons (pe_lc (own := [("one", 1)]) (by rfl) sc_is_head.nd (pi_list (pv 0)) (blkOk_by (own := [("one", 1)]) (N := n_is_head) (sc := defScope s_is_head) (by decide +kernel)) (fun _ _ _ _ _ => (pg_name (i := 1) sc_is_head.nd rfl (by first | exact Or.inl rfl | exact Or.inr rfl))) (fun _ _ _ _ _ => pts_nil) (fun _ _ _ _ _ => (C8.pe_c (cal_is_step T) hr (by decide) rfl (pa_cons (pv 1) pa_nil)))) pa_nil))))))), ?_⟩
  obtain ⟨a, xs, rfl, ⟨vs, ha, hp⟩, hok, hl, q⟩ := h
  have hle := paired_len hp
  refine ⟨_, rfl, _, _, .type "list", _, _, rfl, .ty _, .base (.lst ha), T.kit (by simp [tys]) (by simp [cls]), _, rfl, ?_⟩
  refine iteT ⟨_, rfl, _, _, rfl, .inl ⟨_, .of ha, rfl⟩, _, _, rfl, rfl, _, rfl, ?_⟩
  rw [show decide (((vs.length : Nat) : Int) ≤ 24) = true from decide_eq_true (by omega)]
  refine iteT ⟨_, rfl, a, rfl, ⟨_, SqL.of ha⟩, fun D hD => ?_⟩
  refine lc_list (K := K) (a := a) (xs := vs) (fun i H' => Same H H' ∧ H' D = some (.lst ((List.replicate i true).map V.bl))) ⟨same_new hD, upd_same⟩ (fun i H' _ p => p.1.seq (SqL.of ha)) ?_ ?_
  · rintro i x H' hi ⟨s, hd⟩
    obtain ⟨y, hy, hx⟩ := paired_get hp hi
    refine ⟨rfl, _, rfl, _, _, rfl, hx.mono s, hok y (List.mem_of_getElem? hy), _, hd, ?_, ?_, ?_⟩
    · have := (List.getElem?_eq_some_iff.mp hi).1
      rw [List.length_map, List.length_replicate]
      exact small1000 (by omega)
    · exact Same.mut s hD
    · rw [upd_same, List.replicate_succ', List.map_append]; rfl
  · rintro H' ⟨s, hd⟩
    refine ⟨D, _, rfl, SqL.of hd, ?_⟩
    rw [all_true]
    exact q _ s
theorem inV_ints {i : Int} {l : List Int} (h : i ∈ l) : inV (.int i) (l.map V.int) = true := by
  rw [inV, List.any_eq_true]
  exact ⟨.int i, List.mem_map_of_mem h, by simp [eqV]⟩
def tails : List Int := [1, 2, 3, 4, 6, 8, 12, 24]
theorem Txt.tails (T : Txt K mg) (H : Hp) : SqT K H (He.ga K "TAILS") (tails.map V.int) := by
  exact He.tupB_ok (T.ex 1 (f := fun K => He.tupB K "TAILS" [.int 1, .int 2, .int 3, .int 4, .int 6, .int 8, .int 12, .int 24]) rfl) H
theorem tails_le {n : Nat} (h : (n : Int) ∈ tails) : 1 ≤ n ∧ n ≤ 24 := by
  simp [tails] at h
  omega
def spTail (K : PySem.W.Frag) : Sp := fun vs H Q _ => ∃ a xs, vs = [.ref a] ∧ Steps H a xs ∧ (∀ x ∈ xs, okS x) ∧ (xs.length : Int) ∈ tails ∧ ∀ H', Same H H' → Q (.bl true) H'
theorem cal_is_tail (T : Txt K mg) : C8.Cal P w K mg base 5 "is_tail" (spTail K) [] := by
  refine calD T.f_is_tail T.g_is_tail sc_is_tail (fun fd F => F.bindsN fun _ _ _ _ _ _ us hl => match us, hl with | [_], _ => rfl) (fun vs H Q E h => by obtain ⟨_, _, rfl, _⟩ := h; rfl) fun cdv A outer s H vs Q E hr h => ?_
  refine ⟨_, (pss_one (ps_ret (pe_and (pe_callB call_isi (by rfl) T.b_isinstance (by decide +kernel) (pa_cons (pv 0) (pa_cons (pe_bltn (v := .ty "list") (by rfl) T.b_list (by decide +kernel) rfl) pa_nil))) (pe_and (pe_cmpR op_in_seq (pe_callB call_len (by rfl) T.b_len (by decide +kernel) (pa_cons (pv 0) pa_nil)) (C8.pe_gc rfl T.c_TAILS) (by rfl)) (pe_one (pe_callB (cr_all rfl) (by rfl) T.b_all (by decide +kernel) (pa_cons (pe_lc (own := [("one", 1)]) (by rfl) sc_is_tail.nd (pi_list (pv 0)) (blkOk_by (own := [("one", 1)]) (N := n_is_tail) (sc := defScope s_is_tail) (by decide +kernel)) (fun _ _ _ _ _ => (pg_name (i := 1) sc_is_tail.nd rfl (by first | exact Or.inl rfl | exact Or.inr rfl))) (fun _ _ _ _ _ => pts_nil) (fun _ _ _ _ _ => (C8.pe_c (cal_is_step T) hr (by decide) rfl (pa_cons (pv 1) pa_nil)))) pa_nil))))))), ?_⟩
  obtain ⟨a, xs, rfl, ⟨vs, ha, hp⟩, hok, hl, q⟩ := h
  have hle := paired_len hp
  refine ⟨_, rfl, _, _, .type "list", _, _, rfl, .ty _, .base (.lst ha), T.kit (by simp [tys]) (by simp [cls]), _, rfl, ?_⟩
  refine iteT ⟨_, rfl, _, _, rfl, .inl ⟨_, .of ha, rfl⟩, ?_⟩
  refine ⟨_, _, rfl, .inr (T.tails H), rfl, rfl, _, rfl, ?_⟩
  rw [show (if false then !inV (.int (vs.length : Nat)) _ else inV (.int (vs.length : Nat)) (tails.map V.int)) = true from by rw [hle]; exact inV_ints hl]
  refine iteT ⟨_, rfl, a, rfl, ⟨_, SqL.of ha⟩, fun D hD => ?_⟩
  refine lc_list (K := K) (a := a) (xs := vs) (fun i H' => Same H H' ∧ H' D = some (.lst ((List.replicate i true).map V.bl))) ⟨same_new hD, upd_same⟩ (fun i H' _ p => p.1.seq (SqL.of ha)) ?_ ?_
  · rintro i x H' hi ⟨s, hd⟩
    obtain ⟨y, hy, hx⟩ := paired_get hp hi
    refine ⟨rfl, _, rfl, _, _, rfl, hx.mono s, hok y (List.mem_of_getElem? hy), _, hd, ?_, ?_, ?_⟩
    · have := (List.getElem?_eq_some_iff.mp hi).1
      rw [List.length_map, List.length_replicate]
      have := tails_le hl
      exact small1000 (by omega)
    · exact Same.mut s hD
    · rw [upd_same, List.replicate_succ', List.map_append]; rfl
  · rintro H' ⟨s, hd⟩
    refine ⟨D, _, rfl, SqL.of hd, ?_⟩
    rw [all_true]
    exact q _ s
/-! ### wanes -/
structure WN where
  head : List (Int × Int)
  tail : List (Int × Int)
  cap : Int
  lift : Int
  anew : Bool
structure okW (w : WN) : Prop where
  h : ∀ x ∈ w.head, okS x
  hl : w.head.length ≤ 24
  t : ∀ x ∈ w.tail, okS x
  tl : (w.tail.length : Int) ∈ tails
  c1 : 1 ≤ w.cap
  c2 : w.cap ≤ 1000000000
  l1 : 0 ≤ w.lift
  l2 : w.lift ≤ 1000000000
theorem putF_le {f : Str} {v : V} : ∀ {fs : List (Str × V)} {n : Nat}, fs.length ≤ n → (putF f v fs).length ≤ n + 1
  | [], n, _ => Nat.succ_le_succ (Nat.zero_le n)
  | (g, x) :: r, 0, h => absurd h (Nat.not_succ_le_zero _)
  | (g, x) :: r, n + 1, h => by
    unfold putF
    split
    · exact Nat.le_succ_of_le h
    · exact Nat.succ_le_succ (putF_le (Nat.le_of_succ_le_succ h))
def wF (h t : Addr) (c l : Int) (b : Bool) : List (Str × V) := [("head_steps", .ref h), ("tail_steps", .ref t), ("cap_at", .int c), ("lift_by", .int l), ("begins", .bl b)]
theorem wF_put (h t : Addr) (c l : Int) (b : Bool) : putF "begins" (.bl b) (putF "lift_by" (.int l) (putF "cap_at" (.int c) (putF "tail_steps" (.ref t) (putF "head_steps" (.ref h) [])))) = wF h t c l b := by kernel_rfl
theorem wF_head (h t : Addr) (c l : Int) (b : Bool) : (wF h t c l b).lookup ("head_steps" : Str) = some (.ref h) := by kernel_rfl
theorem wF_tail (h t : Addr) (c l : Int) (b : Bool) : (wF h t c l b).lookup ("tail_steps" : Str) = some (.ref t) := by kernel_rfl
theorem wF_cap (h t : Addr) (c l : Int) (b : Bool) : (wF h t c l b).lookup ("cap_at" : Str) = some (.int c) := by kernel_rfl
theorem wF_lift (h t : Addr) (c l : Int) (b : Bool) : (wF h t c l b).lookup ("lift_by" : Str) = some (.int l) := by kernel_rfl
theorem wF_anew (h t : Addr) (c l : Int) (b : Bool) : (wF h t c l b).lookup ("begins" : Str) = some (.bl b) := by kernel_rfl
abbrev cW (K : PySem.W.Frag) : Addr := He.ga K "Wane"
/-- a wane at a -/
def WaneAt (K : PySem.W.Frag) (H : Hp) (a : Addr) (w : WN) : Prop := ∃ dx h t, H a = some (.ins (cW K) dx (wF h t w.cap w.lift w.anew)) ∧ Steps H h w.head ∧ Steps H t w.tail ∧ okW w
theorem WaneAt.mono {H H' : Hp} (s : Same H H') {a : Addr} {w : WN} : WaneAt K H a w → WaneAt K H' a w := fun ⟨dx, h, t, e, sh, st, ok⟩ => ⟨dx, h, t, s _ _ e, sh.mono s, st.mono s, ok⟩
/-- .. whose parts are not D -/
def WaneN (K : PySem.W.Frag) (D : Addr) (H : Hp) (a : Addr) (w : WN) : Prop := ∃ dx h t, a ≠ D ∧ h ≠ D ∧ t ≠ D ∧ H a = some (.ins (cW K) dx (wF h t w.cap w.lift w.anew)) ∧ Steps H h w.head ∧ Steps H t w.tail ∧ okW w
theorem WaneN.at_ {D : Addr} {H : Hp} {a : Addr} {w : WN} (x : WaneN K D H a w) : WaneAt K H a w := by
  obtain ⟨dx, h, t, _, _, _, e, s1, s2, ok⟩ := x
  exact ⟨dx, h, t, e, s1, s2, ok⟩
theorem WaneN.mono {D : Addr} {H H' : Hp} (s : Same H H') {a : Addr} {w : WN} (x : WaneN K D H a w) : WaneN K D H' a w := by
  obtain ⟨dx, h, t, n1, n2, n3, e, s1, s2, ok⟩ := x
  exact ⟨dx, h, t, n1, n2, n3, s _ _ e, s1.mono s, s2.mono s, ok⟩
theorem WaneN.updL {D : Addr} {H : Hp} {vs : List V} {o : HO} (hD : H D = some (.lst vs)) {a : Addr} {w : WN} (x : WaneN K D H a w) : WaneN K D (L2.upd H D o) a w := by
  obtain ⟨dx, h, t, n1, n2, n3, e, ⟨vh, s1, p1⟩, ⟨vt, s2, p2⟩, ok⟩ := x
  have keep : ∀ {v : V} {y : Int × Int}, StepV H v y → StepV (L2.upd H D o) v y := by
    rintro v y ⟨b, rfl, hb⟩
    exact ⟨b, rfl, by rw [upd_ne (fun z => by rw [z, hD] at hb; cases hb)]; exact hb⟩
  exact ⟨dx, h, t, n1, n2, n3, by rw [upd_ne n1]; exact e, ⟨vh, by rw [upd_ne n2]; exact s1, Paired.mapP p1 fun _ _ => keep⟩, ⟨vt, by rw [upd_ne n3]; exact s2, Paired.mapP p2 fun _ _ => keep⟩, ok⟩
def spWInit (K : PySem.W.Frag) : Sp := fun vs H Q _ => ∃ H0 x dx h t w, vs = [.ref x, .ref h, .ref t, .int w.cap, .int w.lift, .bl w.anew] ∧ H = upd (upd H0 dx (.own x)) x (.ins (cW K) dx []) ∧ H0 x = none ∧ H0 dx = none ∧ dx ≠ x ∧
  Steps H0 h w.head ∧ Steps H0 t w.tail ∧ okW w ∧ ∀ H', Same H0 H' → WaneAt K H' x w → (∀ D, H0 D ≠ none → WaneN K D H' x w) → Q .non H'
theorem fn_Wane_init (T : Txt K mg) {fd : FuncData} (F : FD K d_Wane___init__ fd) : FnOk P w K mg base C8.CX0 6 (He.fAd K d_Wane___init__.at_) fd ["self", "head", "tail", "cap", "lift", "anew"] (spWInit K) := by
  refine F.ok sc_Wane___init__ (fun vs H Q E h => by obtain ⟨_, _, _, _, _, _, rfl, _⟩ := h; rfl) fun cdv A outer s H vs Q E hr h => ?_
  obtain ⟨H0, x, dx, h, t, w, rfl, eH, nx, nd, ne, sh, st, ok, q⟩ := h
  have s0 : Same H0 H := by rw [eH]; exact Same.mut (same_new nd) nx
  have hx : H x = some (.ins (cW K) dx []) := by rw [eH]; exact upd_same
  refine ⟨_, PSs.nox (pss_cons (ps_if (pt_not (pt_val (C8.pe_c (cal_is_head T) hr (by decide) rfl (pa_cons (pv 1) pa_nil)))) (pss_one ps_never) pss_nil) (pss_cons (ps_if (pt_not (pt_val (C8.pe_c (cal_is_tail T) hr (by decide) rfl (pa_cons (pv 2) pa_nil)))) (pss_one ps_never) pss_nil) (pss_cons (ps_if (pt_not (pt_val (C8.pe_c (cal_is_strength T) hr (by decide) rfl (pa_cons (pv 3) pa_nil)))) (pss_one ps_never) pss_nil) (pss_cons (ps_if (pt_not (pt_val (C8.pe_c (cal_is_size T) hr (by decide) rfl (pa_cons (pv 4) pa_nil)))) (pss_one ps_never) pss_nil) (pss_cons (ps_if (pt_not (pt_val (pe_callB call_isi (by rfl) T.b_isinstance (by decide +kernel) (pa_cons (pv 5) (pa_cons (pe_bltn (v := .ty "bool") (by rfl) T.b_bool (by decide +kernel) rfl) pa_nil))))) (pss_one ps_never) pss_nil) (pss_cons (ps_fld (pv 0) (pe_callTy call_list_of (by rfl) T.b_list (by decide +kernel) (pa_cons (pv 1) pa_nil)) rfl) (pss_cons (ps_fld (pv 0) (pe_callTy call_list_of (by rfl) T.b_list (by decide +kernel) (pa_cons (pv 2) pa_nil)) rfl) (pss_cons (ps_fld (pv 0) (pv 3) rfl) (pss_cons (ps_fld (pv 0) (pv 4) rfl) (pss_one (ps_fld (pv 0) (pv 5) rfl))))))))))), ?_⟩
  refine ⟨_, rfl, _, _, rfl, sh.mono s0, ok.h, ok.hl, fun H1 s1 => ⟨_, rfl, iteF ?_⟩⟩
  refine ⟨_, rfl, _, _, rfl, st.mono (s0.trans s1), ok.t, ok.tl, fun H2 s2 => ⟨_, rfl, iteF ?_⟩⟩
  refine ⟨_, rfl, _, rfl, knw_int _, _, rfl, ?_⟩
  rw [wi_int ok.c1 ok.c2]
  refine iteF ⟨_, rfl, _, rfl, knw_int _, _, rfl, ?_⟩
  rw [wi_int ok.l1 ok.l2]
  refine iteF ⟨_, rfl, _, _, .type "bool", _, _, rfl, .ty _, .base (.bl _), T.kit (by simp [tys]) (by simp [cls]), _, rfl, iteF ?_⟩
  have s02 := (s0.trans s1).trans s2
  obtain ⟨vh, hh0, ph⟩ := sh
  obtain ⟨vt, ht0, pt⟩ := st
  have hh := s02 _ _ hh0
  have ht := s02 _ _ ht0
  have hx2 : H2 x = some (.ins (cW K) dx []) := s2 _ _ (s1 _ _ hx)
  refine ⟨_, rfl, h, vh, rfl, .inl (SqL.of hh), fun l nl => ?_⟩
  have xl : x ≠ l := ne_of_none hx2 nl
  have l0 : H0 l = none := s02.free nl
  refine ⟨_, rfl, x, cW K, dx, [], rfl, by rw [upd_ne xl]; exact hx2, T.cl_Wane, T.n_Wane_head_steps, by decide, ?_⟩
  have tl : t ≠ l := ne_of_none ht nl
  have tx : t ≠ x := ne_of_none ht0 nx
  refine ⟨_, rfl, t, vt, rfl, .inl (SqL.of (by rw [upd_ne tx, upd_ne tl]; exact ht)), fun m nm => ?_⟩
  have mx : m ≠ x := fun e => by rw [e, upd_same] at nm; cases nm
  have nm1 : upd H2 l (.lst vh) m = none := by rw [upd_ne mx] at nm; exact nm
  have ml : m ≠ l := fun e => by rw [e, upd_same] at nm1; cases nm1
  have nm2 : H2 m = none := by rw [upd_ne ml] at nm1; exact nm1
  have m0 : H0 m = none := s02.free nm2
  refine ⟨_, rfl, x, cW K, dx, _, rfl, by rw [upd_ne (Ne.symm mx), upd_same], T.cl_Wane, T.n_Wane_tail_steps, Nat.lt_of_le_of_lt (putF_le (Nat.le_refl _)) (by decide), ?_⟩
  refine ⟨_, rfl, _, rfl, x, cW K, dx, _, rfl, upd_same, T.cl_Wane, T.n_Wane_cap_at, Nat.lt_of_le_of_lt (putF_le (putF_le (Nat.le_refl _))) (by decide), ?_⟩
  refine ⟨_, rfl, _, rfl, x, cW K, dx, _, rfl, upd_same, T.cl_Wane, T.n_Wane_lift_by, Nat.lt_of_le_of_lt (putF_le (putF_le (putF_le (Nat.le_refl _)))) (by decide), ?_⟩
  refine ⟨_, rfl, _, rfl, x, cW K, dx, _, rfl, upd_same, T.cl_Wane, T.n_Wane_begins, Nat.lt_of_le_of_lt (putF_le (putF_le (putF_le (putF_le (Nat.le_refl _))))) (by decide), ?_⟩
  rw [upd_upd, upd_upd, upd_upd, wF_put]
  have fin : Same H0 (upd (upd (upd (upd H2 l (.lst vh)) x (.ins (cW K) dx (putF "head_steps" (.ref l) []))) m (.lst vt)) x (.ins (cW K) dx (wF l m w.cap w.lift w.anew))) :=
    Same.mut (Same.mut (Same.mut (Same.mut s02 l0) nx) m0) nx
  have eL : upd (upd (upd (upd H2 l (.lst vh)) x (.ins (cW K) dx (putF "head_steps" (.ref l) []))) m (.lst vt)) x (.ins (cW K) dx (wF l m w.cap w.lift w.anew)) l = some (.lst vh) := by
    rw [upd_ne (Ne.symm xl), upd_ne (Ne.symm ml), upd_ne (Ne.symm xl), upd_same]
  have eM : upd (upd (upd (upd H2 l (.lst vh)) x (.ins (cW K) dx (putF "head_steps" (.ref l) []))) m (.lst vt)) x (.ins (cW K) dx (wF l m w.cap w.lift w.anew)) m = some (.lst vt) := by
    rw [upd_ne mx, upd_same]
  have fh := Paired.mapP ph fun _ _ => StepV.mono fin
  have ft := Paired.mapP pt fun _ _ => StepV.mono fin
  exact q _ fin ⟨dx, l, m, upd_same, ⟨vh, eL, fh⟩, ⟨vt, eM, ft⟩, ok⟩ fun D hD => ⟨dx, l, m, fun e => hD (by rw [← e]; exact nx), fun e => hD (by rw [← e]; exact l0), fun e => hD (by rw [← e]; exact m0), upd_same, ⟨vh, eL, fh⟩, ⟨vt, eM, ft⟩, ok⟩
/-! ### a wane's methods -/
def spCap (K : PySem.W.Frag) : Sp := fun vs H Q _ => ∃ a w, vs = [.ref a] ∧ WaneAt K H a w ∧ Q (.int w.cap) H
theorem met_Wane_cap (T : Txt K mg) : C8.Met P w K mg base 1 (He.ga K "Wane") "cap" (spCap K) [] := by
  refine metD T.f_Wane_cap T.cl_Wane T.m_Wane_cap sc_Wane_cap (fun fd F => F.bindsN fun _ _ _ _ _ _ us hl => match us, hl with | [_], _ => rfl) (fun vs H Q E h => by obtain ⟨_, _, rfl, _⟩ := h; rfl) fun cdv A outer s H vs Q E hr h => ?_
  refine ⟨_, (pss_one (ps_ret (pe_fld (pv 0) rfl))), ?_⟩
  obtain ⟨a, w, rfl, ⟨dx, h, t, e, _⟩, q⟩ := h
  exact ⟨_, rfl, a, _, dx, _, _, rfl, e, T.cl_Wane, T.n_Wane_cap_at, wF_cap .., q⟩
def spLift (K : PySem.W.Frag) : Sp := fun vs H Q _ => ∃ a w, vs = [.ref a] ∧ WaneAt K H a w ∧ Q (.int w.lift) H
theorem met_Wane_lift (T : Txt K mg) : C8.Met P w K mg base 1 (He.ga K "Wane") "lift" (spLift K) [] := by
  refine metD T.f_Wane_lift T.cl_Wane T.m_Wane_lift sc_Wane_lift (fun fd F => F.bindsN fun _ _ _ _ _ _ us hl => match us, hl with | [_], _ => rfl) (fun vs H Q E h => by obtain ⟨_, _, rfl, _⟩ := h; rfl) fun cdv A outer s H vs Q E hr h => ?_
  refine ⟨_, (pss_one (ps_ret (pe_fld (pv 0) rfl))), ?_⟩
  obtain ⟨a, w, rfl, ⟨dx, h, t, e, _⟩, q⟩ := h
  exact ⟨_, rfl, a, _, dx, _, _, rfl, e, T.cl_Wane, T.n_Wane_lift_by, wF_lift .., q⟩
def spAnew (K : PySem.W.Frag) : Sp := fun vs H Q _ => ∃ a w, vs = [.ref a] ∧ WaneAt K H a w ∧ Q (.bl w.anew) H
theorem met_Wane_is_anew (T : Txt K mg) : C8.Met P w K mg base 1 (He.ga K "Wane") "is_anew" (spAnew K) [] := by
  refine metD T.f_Wane_is_anew T.cl_Wane T.m_Wane_is_anew sc_Wane_is_anew (fun fd F => F.bindsN fun _ _ _ _ _ _ us hl => match us, hl with | [_], _ => rfl) (fun vs H Q E h => by obtain ⟨_, _, rfl, _⟩ := h; rfl) fun cdv A outer s H vs Q E hr h => ?_
  refine ⟨_, (pss_one (ps_ret (pe_fld (pv 0) rfl))), ?_⟩
  obtain ⟨a, w, rfl, ⟨dx, h, t, e, _⟩, q⟩ := h
  exact ⟨_, rfl, a, _, dx, _, _, rfl, e, T.cl_Wane, T.n_Wane_begins, wF_anew .., q⟩
/-- the steps' number behind so many -/
def WN.phase (w : WN) (n : Nat) : Nat := if n < w.head.length + w.tail.length then n else w.head.length + (n - w.head.length) % w.tail.length
def WN.at (w : WN) (n : Nat) : Int × Int := if n < w.head.length then w.head.getD n (1, 0) else w.tail.getD ((n - w.head.length) % w.tail.length) (1, 0)
theorem okW.tpos {w : WN} (ok : okW w) : 1 ≤ w.tail.length := (tails_le ok.tl).1
def spComing (K : PySem.W.Frag) : Sp := fun vs H Q _ => ∃ a w n, vs = [.ref a, .int (n : Nat)] ∧ WaneAt K H a w ∧ ∀ v, StepV H v (w.at n) → Q v H
theorem steps_at {H : Hp} {a : Addr} {xs : List (Int × Int)} (h : Steps H a xs) {n : Nat} (hn : n < xs.length) : ∃ vs v, H a = some (.lst vs) ∧ vs.length = xs.length ∧ vs[n]? = some v ∧ StepV H v (xs.getD n (1, 0)) := by
  obtain ⟨vs, e, p⟩ := h
  have l := paired_len p
  obtain ⟨y, hy, hx⟩ := paired_get (i := n) (x := vs[n]'(by omega)) p (List.getElem?_eq_getElem (by omega))
  refine ⟨vs, _, e, l, List.getElem?_eq_getElem (by omega), ?_⟩
  rw [List.getD_eq_getElem?_getD, hy]
  exact hx
theorem met_Wane_coming (T : Txt K mg) : C8.Met P w K mg base 1 (He.ga K "Wane") "coming" (spComing K) [] := by
  refine metD T.f_Wane_coming T.cl_Wane T.m_Wane_coming sc_Wane_coming (fun fd F => F.bindsN fun _ _ _ _ _ _ us hl => match us, hl with | [_, _], _ => rfl) (fun vs H Q E h => by obtain ⟨_, _, _, rfl, _⟩ := h; rfl) fun cdv A outer s H vs Q E hr h => ?_
  refine ⟨_, (pss_cons (ps_set (i := 2) sc_Wane_coming.nd rfl (by first | exact Or.inl rfl | exact Or.inr rfl) (pe_callB call_len (by rfl) T.b_len (by decide +kernel) (pa_cons (pe_fld (pv 0) rfl) pa_nil))) (pss_cons (ps_if (pt_cmpR op_lt (pv 1) (pv 2) (nomark _)) (pss_one (ps_ret (pe_ix ix_list (pe_fld (pv 0) rfl) (pv 1) (fun _ _ => rfl)))) pss_nil) (pss_one (ps_ret (pe_ix ix_list (pe_fld (pv 0) rfl) (pe_op op_mod (pe_op op_sub (pv 1) (pv 2)) (pe_callB call_len (by rfl) T.b_len (by decide +kernel) (pa_cons (pe_fld (pv 0) rfl) pa_nil))) (fun _ _ => rfl)))))), ?_⟩
  obtain ⟨a, w, n, rfl, ⟨dx, h, t, e, sh, st, ok⟩, q⟩ := h
  obtain ⟨vh, hh, ph⟩ := id sh
  obtain ⟨vt, ht, pt⟩ := id st
  have l1 := paired_len ph
  have l2 := paired_len pt
  refine ⟨_, rfl, a, _, dx, _, _, rfl, e, T.cl_Wane, T.n_Wane_head_steps, wF_head .., _, _, rfl, .inl ⟨_, SqL.of hh, rfl⟩, ?_⟩
  refine ⟨_, rfl, _, rfl, _, _, rfl, rfl, _, rfl, ite2 (fun c => ?_) (fun c => ?_)⟩
  · have c := of_decide_eq_true c
    have hn : n < w.head.length := by omega
    obtain ⟨vs, v, e1, _, e2, e3⟩ := steps_at sh hn
    rw [hh] at e1; cases e1
    refine ⟨_, rfl, a, _, dx, _, _, rfl, e, T.cl_Wane, T.n_Wane_head_steps, wF_head .., _, rfl, h, vh, _, v, rfl, rfl, SqL.of hh, atI_nat e2, q v ?_⟩
    rw [WN.at, if_pos hn]; exact e3
  · have c : ¬ (n : Int) < vh.length := fun z => c (decide_eq_true z)
    have hn : ¬ n < w.head.length := by omega
    have tp := ok.tpos
    obtain ⟨vs, v, e1, _, e2, e3⟩ := steps_at st (n := (n - w.head.length) % w.tail.length) (Nat.mod_lt _ tp)
    rw [ht] at e1; cases e1
    refine ⟨_, rfl, a, _, dx, _, _, rfl, e, T.cl_Wane, T.n_Wane_tail_steps, wF_tail .., _, rfl, _, rfl, _, _, rfl, rfl, _, rfl, a, _, dx, _, _, rfl, e, T.cl_Wane, T.n_Wane_tail_steps, wF_tail .., _, _, rfl, .inl ⟨_, SqL.of ht, rfl⟩,
      _, _, rfl, rfl, by show (0 : Int) < (vt.length : Int); omega, t, vt, _, v, rfl, rfl, SqL.of ht, ?_, q v ?_⟩
    · have e4 : ((n : Int) - (vh.length : Int)) % (vt.length : Int) = (((n - w.head.length) % w.tail.length : Nat) : Int) := by
        rw [l1, l2, ← Int.ofNat_sub (by omega)]; exact (Int.natCast_emod _ _).symm
      rw [e4]; exact atI_nat e2
    · rw [WN.at, if_neg hn]; exact e3
def spPhaseOf (K : PySem.W.Frag) : Sp := fun vs H Q _ => ∃ a w n, vs = [.ref a, .int (n : Nat)] ∧ WaneAt K H a w ∧ Q (.int (w.phase n : Nat)) H
theorem met_Wane_phase_of (T : Txt K mg) : C8.Met P w K mg base 1 (He.ga K "Wane") "phase_of" (spPhaseOf K) [] := by
  refine metD T.f_Wane_phase_of T.cl_Wane T.m_Wane_phase_of sc_Wane_phase_of (fun fd F => F.bindsN fun _ _ _ _ _ _ us hl => match us, hl with | [_, _], _ => rfl) (fun vs H Q E h => by obtain ⟨_, _, _, rfl, _⟩ := h; rfl) fun cdv A outer s H vs Q E hr h => ?_
  refine ⟨_, (pss_cons (ps_set (i := 2) sc_Wane_phase_of.nd rfl (by first | exact Or.inl rfl | exact Or.inr rfl) (pe_callB call_len (by rfl) T.b_len (by decide +kernel) (pa_cons (pe_fld (pv 0) rfl) pa_nil))) (pss_cons (ps_if (pt_cmpR op_lt (pv 1) (pe_op op_add (pv 2) (pe_callB call_len (by rfl) T.b_len (by decide +kernel) (pa_cons (pe_fld (pv 0) rfl) pa_nil))) (nomark _)) (pss_one (ps_ret (pv 1))) pss_nil) (pss_one (ps_ret (pe_op op_add (pv 2) (pe_op op_mod (pe_op op_sub (pv 1) (pv 2)) (pe_callB call_len (by rfl) T.b_len (by decide +kernel) (pa_cons (pe_fld (pv 0) rfl) pa_nil)))))))), ?_⟩
  obtain ⟨a, w, n, rfl, ⟨dx, h, t, e, sh, st, ok⟩, q⟩ := h
  obtain ⟨vh, hh, ph⟩ := id sh
  obtain ⟨vt, ht, pt⟩ := id st
  have l1 := paired_len ph
  have l2 := paired_len pt
  have tp := ok.tpos
  refine ⟨_, rfl, a, _, dx, _, _, rfl, e, T.cl_Wane, T.n_Wane_head_steps, wF_head .., _, _, rfl, .inl ⟨_, SqL.of hh, rfl⟩, ?_⟩
  refine ⟨_, rfl, _, rfl, _, rfl, a, _, dx, _, _, rfl, e, T.cl_Wane, T.n_Wane_tail_steps, wF_tail .., _, _, rfl, .inl ⟨_, SqL.of ht, rfl⟩, _, _, rfl, rfl, _, _, rfl, rfl, _, rfl, ite2 (fun c => ?_) (fun c => ?_)⟩
  · have c := of_decide_eq_true c
    rw [WN.phase, if_pos (by omega)] at q
    exact ⟨_, rfl, q⟩
  · have c : ¬ (n : Int) < (vh.length : Int) + vt.length := fun z => c (decide_eq_true z)
    rw [WN.phase, if_neg (by omega)] at q
    refine ⟨_, rfl, _, rfl, _, rfl, _, _, rfl, rfl, _, rfl, a, _, dx, _, _, rfl, e, T.cl_Wane, T.n_Wane_tail_steps, wF_tail .., _, _, rfl, .inl ⟨_, SqL.of ht, rfl⟩, _, _, rfl, rfl, by show (0 : Int) < (vt.length : Int); omega, _, _, rfl, rfl, ?_⟩
    have e4 : (vh.length : Int) + ((n : Int) - (vh.length : Int)) % (vt.length : Int) = ((w.head.length + (n - w.head.length) % w.tail.length : Nat) : Int) := by
      rw [l1, l2, ← Int.ofNat_sub (by omega), ← Int.natCast_emod]; omega
    show Q (.int ((vh.length : Int) + ((n : Int) - (vh.length : Int)) % (vt.length : Int))) H
    rw [e4]; exact q
def spPhaseOf' (K : PySem.W.Frag) : Sp := fun vs H Q _ => ∃ a w n, vs = [.ref a, .int (n : Nat)] ∧ WaneAt K H a w ∧ (n : Int) ≤ 1000000000000000000000000000000 ∧ Q (.int (w.phase n : Nat)) H
theorem met_Wane_phase (T : Txt K mg) : C8.Met P w K mg base 4 (He.ga K "Wane") "phase" (spPhaseOf' K) [] := by
  refine metD T.f_Wane_phase T.cl_Wane T.m_Wane_phase sc_Wane_phase (fun fd F => F.bindsN fun _ _ _ _ _ _ us hl => match us, hl with | [_, _], _ => rfl) (fun vs H Q E h => by obtain ⟨_, _, _, rfl, _⟩ := h; rfl) fun cdv A outer s H vs Q E hr h => ?_
  refine ⟨_, (pss_cons (ps_if (pt_not (pt_val (C8.pe_c (cal_is_moment T) hr (by decide) rfl (pa_cons (pv 1) pa_nil)))) (pss_one ps_never) pss_nil) (pss_one (ps_ret (C8.pe_mt (met_Wane_phase_of T) hr (by decide) (pv 0) (pa_cons (pv 1) pa_nil))))), ?_⟩
  obtain ⟨a, w, n, rfl, hw, hn, q⟩ := h
  obtain ⟨dx, h, t, e, sh, st, ok⟩ := id hw
  refine ⟨_, rfl, _, rfl, knw_int _, _, rfl, ?_⟩
  rw [wi_int (by omega) hn]
  exact iteF ⟨_, rfl, a, dx, _, rfl, e, by kernel_rfl, _, rfl, a, w, n, rfl, hw, q⟩
end
end WH

set_option maxHeartbeats 4000000
namespace WH
open PySem PySem.Spec PyProof.Rows L2
section
variable {P : Program} {w : World} {K : PySem.W.Frag} {mg : Str → Option Value} {base : Heap}
theorem getD_mem {α : Type} {l : List α} {n : Nat} {d : α} (h : n < l.length) : l.getD n d ∈ l := by
  rw [List.getD_eq_getElem?_getD, List.getElem?_eq_getElem h]
  exact List.getElem_mem h
theorem okW.at {w : WN} (ok : okW w) (n : Nat) : okS (w.at n) := by
  unfold WN.at
  split
  · rename_i h
    exact ok.h _ (getD_mem h)
  · exact ok.t _ (getD_mem (Nat.mod_lt _ ok.tpos))
def WN.turn (w : WN) (s : Int) (n : Nat) : Int := if s / (w.at n).1 - (w.at n).2 > 0 then s / (w.at n).1 - (w.at n).2 else 0
def WN.ask (w : WN) (s : Int) : Int := if s = 0 then 0 else if s + w.lift < w.cap then s + w.lift else w.cap
theorem WaneAt.ok {H : Hp} {a : Addr} {w : WN} (h : WaneAt K H a w) : okW w := let ⟨_, _, _, _, _, _, ok⟩ := h; ok
theorem Txt.insW (T : Txt K mg) : insB K (cW K) = true := by
  have e := T.ex 0 (f := kitAll) rfl
  simp only [kitAll, Bool.and_eq_true] at e
  exact e.2
theorem knw_wane (T : Txt K mg) {H : Hp} {a : Addr} {w : WN} (h : WaneAt K H a w) : TyX K H (.ref a) (.ref (cW K)) := by
  obtain ⟨dx, h, t, e, _⟩ := h
  have i := T.insW
  unfold insB at i
  simp only [Bool.and_eq_true, decide_eq_true_eq] at i
  exact .base (.ins e T.cl_Wane i.1 i.2.1 i.2.2.1 i.2.2.2)
def spCheck (K : PySem.W.Frag) : Sp := fun vs H Q _ => ∃ a w s least pl, vs = [.ref a, .int s, .int least, .int pl] ∧ WaneAt K H a w ∧ least ≤ s ∧ s ≤ w.cap ∧ Q .non H
theorem cal_check_part (T : Txt K mg) : C8.Cal P w K mg base 3 "check_part" (spCheck K) [] := by
  refine calD T.f_check_part T.g_check_part sc_check_part (fun fd F => F.bindsN fun _ _ _ _ _ _ us hl => match us, hl with | [_, _, _, _], _ => rfl) (fun vs H Q E h => by obtain ⟨_, _, _, _, _, rfl, _⟩ := h; rfl) fun cdv A outer s H vs Q E hr h => ?_
  refine ⟨_, (pss_cons (ps_if (pt_not (pt_val (pe_callB call_isi (by rfl) T.b_isinstance (by decide +kernel) (pa_cons (pv 0) (pa_cons (C8.pe_gc (v := .ref (He.ga K "Wane")) rfl ⟨_, T.g_Wane, rfl⟩) pa_nil))))) (pss_one ps_never) pss_nil) (pss_one (ps_if (pt_not (pt_val (C8.pe_c (cal_is_within T) hr (by decide) rfl (pa_cons (pv 1) (pa_cons (pv 2) (pa_cons (pe_fld (pv 0) rfl) pa_nil)))))) (pss_one ps_never) pss_nil))), ?_⟩
  obtain ⟨a, w, s, least, pl, rfl, hw, h1, h2, q⟩ := h
  obtain ⟨dx, h, t, e, _⟩ := id hw
  refine ⟨_, rfl, _, _, .ref (cW K), _, _, rfl, .own _, knw_wane T hw, T.kit (by simp [tys]) (by simp [cls]), _, rfl, ?_⟩
  rw [show isk (.ref (cW K)) (.ref (cW K)) = true by simp [isk]]
  refine iteF ⟨_, rfl, _, rfl, _, rfl, a, _, dx, _, _, rfl, e, T.cl_Wane, T.n_Wane_cap_at, wF_cap .., _, _, _, rfl, knw_int _, _, rfl, ?_⟩
  rw [wi_int h1 h2]
  exact iteF q
def spTurned (K : PySem.W.Frag) : Sp := fun vs H Q _ => ∃ a w s n, vs = [.ref a, .int s, .int (n : Nat)] ∧ WaneAt K H a w ∧ Q (.int (w.turn s n)) H
theorem cal_turned (T : Txt K mg) : C8.Cal P w K mg base 2 "turned" (spTurned K) [] := by
  refine calD T.f_turned T.g_turned sc_turned (fun fd F => F.bindsN fun _ _ _ _ _ _ us hl => match us, hl with | [_, _, _], _ => rfl) (fun vs H Q E h => by obtain ⟨_, _, _, _, rfl, _⟩ := h; rfl) fun cdv A outer s H vs Q E hr h => ?_
  refine ⟨_, (pss_cons (ps_asg (C8.pe_mt (met_Wane_coming T) hr (by decide) (pv 0) (pa_cons (pv 2) pa_nil)) (pg_tup rfl (pgs_cons (pg_name (i := 3) sc_turned.nd rfl (by first | exact Or.inl rfl | exact Or.inr rfl)) (pgs_cons (pg_name (i := 4) sc_turned.nd rfl (by first | exact Or.inl rfl | exact Or.inr rfl)) pgs_nil)))) (pss_one (ps_ret (pe_callB (call_max2 rfl) (by rfl) T.b_max (by decide +kernel) (pa_cons pe_int (pa_cons (pe_op op_sub (pe_op op_fdiv (pv 1) (pv 3)) (pv 4)) pa_nil)))))), ?_⟩
  obtain ⟨a, w, s, n, rfl, hw, q⟩ := h
  obtain ⟨dx, h, t, e, _, _, ok⟩ := id hw
  refine ⟨_, rfl, a, dx, _, rfl, e, by kernel_rfl, _, rfl, a, w, n, rfl, hw, fun v hv => ?_⟩
  obtain ⟨b, rfl, hb⟩ := hv
  obtain ⟨b1, b2, t1, t2⟩ := ok.at n
  refine ⟨b, _, rfl, SqT.of hb, rfl, _, _, rfl, _, _, rfl, rfl, ?_⟩
  refine ⟨_, rfl, _, rfl, _, _, rfl, rfl, ⟨b1, by omega⟩, _, rfl, _, _, rfl, rfl, _, _, rfl, ?_⟩
  exact q
def spAsked (K : PySem.W.Frag) : Sp := fun vs H Q _ => ∃ a w s, vs = [.ref a, .int s] ∧ WaneAt K H a w ∧ Q (.int (w.ask s)) H
theorem cal_asked (T : Txt K mg) : C8.Cal P w K mg base 1 "asked" (spAsked K) [] := by
  refine calD T.f_asked T.g_asked sc_asked (fun fd F => F.bindsN fun _ _ _ _ _ _ us hl => match us, hl with | [_, _], _ => rfl) (fun vs H Q E h => by obtain ⟨_, _, _, rfl, _⟩ := h; rfl) fun cdv A outer s H vs Q E hr h => ?_
  refine ⟨_, (pss_cons (ps_if (pt_cmpR op_eq (pv 1) pe_int (nomark _)) (pss_one (ps_ret pe_int)) pss_nil) (pss_one (ps_ret (pe_callB (call_min2 rfl) (by rfl) T.b_min (by decide +kernel) (pa_cons (pe_fld (pv 0) rfl) (pa_cons (pe_op op_add (pv 1) (pe_fld (pv 0) rfl)) pa_nil)))))), ?_⟩
  obtain ⟨a, w, s, rfl, hw, q⟩ := h
  obtain ⟨dx, h, t, e, _, _, ok⟩ := id hw
  unfold WN.ask at q
  refine ⟨_, rfl, rfl, _, rfl, ite2 (fun c => ?_) (fun c => ?_)⟩
  · have c : s = 0 := by simpa using c
    rw [if_pos c] at q
    exact q
  · have c : ¬ s = 0 := by simpa using c
    rw [if_neg c] at q
    refine ⟨_, rfl, a, _, dx, _, _, rfl, e, T.cl_Wane, T.n_Wane_cap_at, wF_cap .., _, rfl, _, rfl, a, _, dx, _, _, rfl, e, T.cl_Wane, T.n_Wane_lift_by, wF_lift .., _, _, rfl, rfl, _, _, rfl, ?_⟩
    exact q
/-- the since behind a sign: '.' or 'a' -/
def WN.nxt (w : WN) (dot : Bool) (n : Nat) : Nat := if dot then n + 1 else if w.anew then 0 else n
def sgn (dot : Bool) : Str := if dot then "." else "a"
theorem sgn_dot (b : Bool) : decide (V.str (sgn b) = V.str ".") = b := by cases b <;> decide +kernel
theorem sgn_a (b : Bool) : decide (V.str (sgn b) = V.str "a") = !b := by cases b <;> decide +kernel
def spWaned (K : PySem.W.Frag) : Sp := fun vs H Q _ => ∃ a w s n, vs = [.ref a, .int s, .int (n : Nat)] ∧ WaneAt K H a w ∧ 0 ≤ s ∧ s ≤ w.cap ∧ (n : Int) ≤ 1000000000000000000000000000000 ∧ Q (.int (w.turn s n)) H
theorem cal_waned (T : Txt K mg) : C8.Cal P w K mg base 4 "waned" (spWaned K) [] := by
  refine calD T.f_waned T.g_waned sc_waned (fun fd F => F.bindsN fun _ _ _ _ _ _ us hl => match us, hl with | [_, _, _], _ => rfl) (fun vs H Q E h => by obtain ⟨_, _, _, _, rfl, _⟩ := h; rfl) fun cdv A outer s H vs Q E hr h => ?_
  refine ⟨_, (pss_cons (ps_expr (C8.pe_c (cal_check_part T) hr (by decide) rfl (pa_cons (pv 0) (pa_cons (pv 1) (pa_cons pe_int (pa_cons pe_int pa_nil)))))) (pss_cons (ps_if (pt_not (pt_val (C8.pe_c (cal_is_moment T) hr (by decide) rfl (pa_cons (pv 2) pa_nil)))) (pss_one ps_never) pss_nil) (pss_one (ps_ret (C8.pe_c (cal_turned T) hr (by decide) rfl (pa_cons (pv 0) (pa_cons (pv 1) (pa_cons (pv 2) pa_nil)))))))), ?_⟩
  obtain ⟨a, w, s, n, rfl, hw, h1, h2, h3, q⟩ := h
  refine ⟨_, rfl, _, rfl, a, w, s, _, _, rfl, hw, h1, h2, _, rfl, _, rfl, knw_int _, _, rfl, ?_⟩
  rw [wi_int (by omega) h3]
  exact iteF ⟨_, rfl, _, rfl, _, rfl, a, w, s, n, rfl, hw, q⟩
def spLifted (K : PySem.W.Frag) : Sp := fun vs H Q _ => ∃ a w s, vs = [.ref a, .int s] ∧ WaneAt K H a w ∧ 0 ≤ s ∧ s ≤ w.cap ∧ Q (.int (w.ask s)) H
theorem cal_lifted (T : Txt K mg) : C8.Cal P w K mg base 4 "lifted" (spLifted K) [] := by
  refine calD T.f_lifted T.g_lifted sc_lifted (fun fd F => F.bindsN fun _ _ _ _ _ _ us hl => match us, hl with | [_, _], _ => rfl) (fun vs H Q E h => by obtain ⟨_, _, _, rfl, _⟩ := h; rfl) fun cdv A outer s H vs Q E hr h => ?_
  refine ⟨_, (pss_cons (ps_expr (C8.pe_c (cal_check_part T) hr (by decide) rfl (pa_cons (pv 0) (pa_cons (pv 1) (pa_cons pe_int (pa_cons pe_int pa_nil)))))) (pss_one (ps_ret (C8.pe_c (cal_asked T) hr (by decide) rfl (pa_cons (pv 0) (pa_cons (pv 1) pa_nil)))))), ?_⟩
  obtain ⟨a, w, s, rfl, hw, h1, h2, q⟩ := h
  exact ⟨_, rfl, _, rfl, a, w, s, _, _, rfl, hw, h1, h2, _, rfl, _, rfl, a, w, s, rfl, hw, q⟩
/-- a state: none, or a strength and a phase -/
abbrev Stt := Option (Int × Nat)
def SttV (H : Hp) (v : V) : Stt → Prop
  | none => v = .non
  | some p => ∃ b, v = .ref b ∧ H b = some (.tup [.int p.1, .int (p.2 : Nat)])
theorem SttV.mono {H H' : Hp} (s : Same H H') {v : V} : ∀ {st : Stt}, SttV H v st → SttV H' v st
  | none, h => h
  | some p, ⟨b, e, h⟩ => ⟨b, e, s _ _ h⟩
def WN.led (w : WN) (dot : Bool) : Stt → Stt
  | none => none
  | some (s, n) => if dot then (if w.turn s n = 0 then none else some (w.turn s n, w.phase (n + 1))) else some (w.ask s, if w.anew then 0 else n)
def okSt (w : WN) : Stt → Prop
  | none => True
  | some (s, n) => 1 ≤ s ∧ s ≤ w.cap ∧ n < w.head.length + w.tail.length
def spLed (K : PySem.W.Frag) : Sp := fun vs H Q _ => ∃ a w v st b, vs = [.ref a, v, .str (sgn b)] ∧ WaneAt K H a w ∧ SttV H v st ∧ okSt w st ∧ ∀ v' H', Same H H' → SttV H' v' (w.led b st) → Q v' H'
theorem cal_led (T : Txt K mg) : C8.Cal P w K mg base 5 "led" (spLed K) [] := by
  refine calD T.f_led T.g_led sc_led (fun fd F => F.bindsN fun _ _ _ _ _ _ us hl => match us, hl with | [_, _, _], _ => rfl) (fun vs H Q E h => by obtain ⟨_, _, _, _, _, rfl, _⟩ := h; rfl) fun cdv A outer s H vs Q E hr h => ?_
  refine ⟨_, (pss_cons (ps_if (pt_cmpR op_isN (pv 1) pe_non (nomark _)) (pss_one (ps_ret pe_non)) pss_nil) (pss_cons (ps_asg (pv 1) (pg_tup rfl (pgs_cons (pg_name (i := 3) sc_led.nd rfl (by first | exact Or.inl rfl | exact Or.inr rfl)) (pgs_cons (pg_name (i := 4) sc_led.nd rfl (by first | exact Or.inl rfl | exact Or.inr rfl)) pgs_nil)))) (pss_cons (ps_if (pt_cmpR op_eq (pv 2) pe_str (nomark _)) (pss_cons (ps_if (pt_val (C8.pe_mt0 (met_Wane_is_anew T) hr (by decide) (pv 0))) (pss_one (ps_set (i := 4) sc_led.nd rfl (by first | exact Or.inl rfl | exact Or.inr rfl) pe_int)) pss_nil) (pss_one (ps_ret (pe_tup (pa_cons (C8.pe_c (cal_lifted T) hr (by decide) rfl (pa_cons (pv 0) (pa_cons (pv 3) pa_nil))) (pa_cons (pv 4) pa_nil)))))) pss_nil) (pss_cons (ps_set (i := 3) sc_led.nd rfl (by first | exact Or.inl rfl | exact Or.inr rfl) (C8.pe_c (cal_waned T) hr (by decide) rfl (pa_cons (pv 0) (pa_cons (pv 3) (pa_cons (pv 4) pa_nil))))) (pss_cons (ps_if (pt_cmpR op_eq (pv 3) pe_int (nomark _)) (pss_one (ps_ret pe_non)) pss_nil) (pss_one (ps_ret (pe_tup (pa_cons (pv 3) (pa_cons (C8.pe_mt (met_Wane_phase T) hr (by decide) (pv 0) (pa_cons (pe_op op_add (pv 4) pe_int) pa_nil)) pa_nil)))))))))), ?_⟩
  obtain ⟨a, w, v, st, b, rfl, hw, hv, hs, q⟩ := h
  obtain ⟨dx, h, t, e, _, _, ok⟩ := id hw
  cases st with
  | none =>
    have hv : v = .non := hv
    subst hv
    refine ⟨_, rfl, rfl, _, rfl, iteT ?_⟩
    exact q _ _ (Same.refl _) rfl
  | some p =>
    obtain ⟨s, n⟩ := p
    obtain ⟨c, rfl, hc⟩ := hv
    obtain ⟨s1, s2, n1⟩ := hs
    have b1 := ok.hl
    have b2 := (tails_le ok.tl).2
    refine ⟨_, rfl, rfl, _, rfl, iteF ?_⟩
    refine ⟨_, rfl, c, _, rfl, SqT.of hc, rfl, _, _, rfl, _, _, rfl, rfl, ?_⟩
    refine ⟨_, rfl, rfl, _, rfl, ?_⟩
    rw [sgn_a]
    cases b with
    | true =>
      refine iteF ⟨_, rfl, _, rfl, _, rfl, a, w, s, n, rfl, hw, by omega, s2, by omega, ?_⟩
      refine ⟨_, rfl, rfl, _, rfl, ite2 (fun z => ?_) (fun z => ?_)⟩
      · have z : w.turn s n = 0 := by simpa using z
        refine q _ _ (Same.refl _) ?_
        show SttV H V.non (if w.turn s n = 0 then none else some (w.turn s n, w.phase (n + 1)))
        rw [if_pos z]; rfl
      · have z : ¬ w.turn s n = 0 := by simpa using z
        refine ⟨_, rfl, _, rfl, a, dx, _, rfl, e, by kernel_rfl, _, rfl, _, _, rfl, rfl, a, w, n + 1, rfl, hw, by omega, ?_⟩
        refine ⟨by show 2 ≤ sizeLine; decide, fun p np => q _ _ (same_new np) ?_⟩
        show SttV _ _ (if w.turn s n = 0 then none else some (w.turn s n, w.phase (n + 1)))
        rw [if_neg z]
        exact ⟨p, rfl, upd_same⟩
    | false =>
      refine iteT ⟨_, rfl, a, dx, _, rfl, e, by kernel_rfl, a, w, rfl, hw, _, rfl, ?_⟩
      cases ea : w.anew with
      | true =>
        refine iteT ⟨_, rfl, _, rfl, a, w, s, rfl, hw, by omega, s2, _, rfl, by show 2 ≤ sizeLine; decide, fun p np => q _ _ (same_new np) ⟨p, rfl, ?_⟩⟩
        rw [upd_same, ea]; rfl
      | false =>
        refine iteF ⟨_, rfl, _, rfl, a, w, s, rfl, hw, by omega, s2, _, rfl, by show 2 ≤ sizeLine; decide, fun p np => q _ _ (same_new np) ⟨p, rfl, ?_⟩⟩
        rw [upd_same, ea]; rfl
end
end WH

set_option maxHeartbeats 4000000
namespace WH
open PySem PySem.Spec PyProof.Rows L2
/-! ### the search by width -/
def code (b : Bool) : Nat := if b then 46 else 97
def rowS (l : List Bool) : Str := SX.S (l.map code)
theorem rowS_len (l : List Bool) : (rowS l).length = l.length := by rw [rowS, SX.S_len, List.length_map]
theorem rowS_app (l m : List Bool) : rowS l ++ rowS m = rowS (l ++ m) := by rw [rowS, rowS, rowS, SX.S_cat, List.map_append]
theorem sgn_row (b : Bool) : sgn b = rowS [b] := by cases b <;> decide +kernel
abbrev Row := List Bool × (Stt × Stt)
def stp (w1 w2 : WN) (r : Row) (b : Bool) : Row := (r.1 ++ [b], (w1.led b r.2.1, w2.led b r.2.2))
def addR (rows : List Row) (q : Row) : List Row := if q.2 ∈ rows.map (·.2) then rows else rows ++ [q]
def run (w1 w2 : WN) (s f : Int) : Nat → List Row
  | 0 => [([], (some (s, 0), some (f, 0)))]
  | k + 1 => match (run w1 w2 s f k)[k]? with
    | some r => addR (addR (run w1 w2 s f k) (stp w1 w2 r true)) (stp w1 w2 r false)
    | none => run w1 w2 s f k
def parts (p : Stt × Stt) : Bool := p.1.isNone != p.2.isNone
theorem at_nn {w : WN} (ok : okW w) (n : Nat) : 0 ≤ (w.at n).2 := (ok.at n).2.2.1
theorem turn_le {w : WN} (ok : okW w) {s : Int} (h : 0 ≤ s) (n : Nat) : w.turn s n ≤ s ∧ 0 ≤ w.turn s n := by
  unfold WN.turn
  obtain ⟨b1, _, t1, _⟩ := ok.at n
  have := Int.ediv_le_self (w.at n).1 h
  split <;> omega
theorem ask_ok {w : WN} (ok : okW w) {s : Int} (h1 : 1 ≤ s) (h2 : s ≤ w.cap) : 1 ≤ w.ask s ∧ w.ask s ≤ w.cap := by
  unfold WN.ask
  have := ok.l1
  have := ok.c1
  rw [if_neg (by omega)]
  split <;> omega
theorem phase_lt {w : WN} (ok : okW w) (n : Nat) : w.phase n < w.head.length + w.tail.length := by
  unfold WN.phase
  have := ok.tpos
  split
  · assumption
  · have := Nat.mod_lt (n - w.head.length) this
    omega
theorem led_ok {w : WN} (ok : okW w) (b : Bool) : ∀ {st : Stt}, okSt w st → okSt w (w.led b st)
  | none, _ => trivial
  | some (s, n), ⟨h1, h2, h3⟩ => by
    have tp := ok.tpos
    cases b with
    | true =>
      show okSt w (if w.turn s n = 0 then none else some (w.turn s n, w.phase (n + 1)))
      have := turn_le ok (show 0 ≤ s by omega) n
      split
      · trivial
      · exact ⟨by omega, by omega, phase_lt ok _⟩
    | false =>
      have := ask_ok ok h1 h2
      refine ⟨this.1, this.2, ?_⟩
      show (if w.anew then 0 else n) < _
      split <;> omega
structure okRow (w1 w2 : WN) (k : Nat) (r : Row) : Prop where
  a : okSt w1 r.2.1
  b : okSt w2 r.2.2
  l : r.1.length ≤ k
theorem mem_addR {rows : List Row} {q r : Row} (h : r ∈ addR rows q) : r ∈ rows ∨ r = q := by
  unfold addR at h
  split at h
  · exact .inl h
  · rcases List.mem_append.mp h with h | h
    · exact .inl h
    · exact .inr (List.mem_singleton.mp h)
theorem stp_ok {w1 w2 : WN} (o1 : okW w1) (o2 : okW w2) {k : Nat} {r : Row} (h : okRow w1 w2 k r) (b : Bool) : okRow w1 w2 (k + 1) (stp w1 w2 r b) :=
  ⟨led_ok o1 b h.a, led_ok o2 b h.b, by show (r.1 ++ [b]).length ≤ _; rw [List.length_append, List.length_singleton]; exact Nat.succ_le_succ h.l⟩
theorem run_ok {w1 w2 : WN} (o1 : okW w1) (o2 : okW w2) {s f : Int} (h1 : okSt w1 (some (s, 0))) (h2 : okSt w2 (some (f, 0))) : ∀ k, ∀ r ∈ run w1 w2 s f k, okRow w1 w2 k r
  | 0, r, h => by
    rw [List.mem_singleton.mp h]
    exact ⟨h1, h2, Nat.le_refl _⟩
  | k + 1, r, h => by
    have ih := run_ok o1 o2 h1 h2 k
    unfold run at h
    split at h
    · rename_i q hq
      have oq := ih q (List.mem_of_getElem? hq)
      rcases mem_addR h with h | h
      · rcases mem_addR h with h | h
        · obtain ⟨a, b, l⟩ := ih r h
          exact ⟨a, b, Nat.le_succ_of_le l⟩
        · rw [h]; exact stp_ok o1 o2 oq true
      · rw [h]; exact stp_ok o1 o2 oq false
    · obtain ⟨a, b, l⟩ := ih r h
      exact ⟨a, b, Nat.le_succ_of_le l⟩
theorem addR_len (rows : List Row) (q : Row) : rows.length ≤ (addR rows q).length ∧ (addR rows q).length ≤ rows.length + 1 := by
  unfold addR
  split
  · exact ⟨Nat.le_refl _, Nat.le_succ _⟩
  · rw [List.length_append, List.length_singleton]; exact ⟨Nat.le_succ _, Nat.le_refl _⟩
theorem run_len (w1 w2 : WN) (s f : Int) : ∀ k, (run w1 w2 s f k).length ≤ 2 * k + 1
  | 0 => Nat.le_refl _
  | k + 1 => by
    have ih := run_len w1 w2 s f k
    unfold run
    split
    · have a := addR_len (run w1 w2 s f k)
      rename_i r _
      have b := addR_len (addR (run w1 w2 s f k) (stp w1 w2 r true)) (stp w1 w2 r false)
      have c := addR_len (run w1 w2 s f k) (stp w1 w2 r true)
      omega
    · omega
/-- all pairs ahead of place k stand in the rows there, and none parts -/
def Clean (w1 w2 : WN) (s f : Int) (k : Nat) : Prop := ∀ j, j < k → ∃ r, (run w1 w2 s f j)[j]? = some r ∧ parts r.2 = false
/-! ### over the heap -/
def Tup (H H' : Hp) : Prop := ∀ a vs, H a = some (.tup vs) → H' a = some (.tup vs)
theorem Tup.of {H H' : Hp} (s : Same H H') : Tup H H' := fun a vs h => s a _ h
theorem Tup.trans {H H1 H2 : Hp} (a : Tup H H1) (b : Tup H1 H2) : Tup H H2 := fun c vs h => b c vs (a c vs h)
theorem Tup.upd {H : Hp} {a : Addr} {o : HO} (h : ∀ vs, H a ≠ some (.tup vs)) : Tup H (upd H a o) := fun b vs e => by
  rw [upd_ne (fun z => h vs (by rw [← z]; exact e))]
  exact e
theorem SttV.tup {H H' : Hp} (s : Tup H H') {v : V} : ∀ {st : Stt}, SttV H v st → SttV H' v st
  | none, h => h
  | some p, ⟨b, e, h⟩ => ⟨b, e, s _ _ h⟩
def RowV (H : Hp) (v : V) (r : Row) : Prop := ∃ a v1 v2, v = .ref a ∧ H a = some (.tup [.str (rowS r.1), v1, v2]) ∧ SttV H v1 r.2.1 ∧ SttV H v2 r.2.2
theorem RowV.tup {H H' : Hp} (s : Tup H H') {v : V} {r : Row} : RowV H v r → RowV H' v r := fun ⟨a, v1, v2, e, h, h1, h2⟩ => ⟨a, v1, v2, e, s _ _ h, h1.tup s, h2.tup s⟩
def stK : Stt → NestedKey
  | none => .none
  | some p => .tup [.num p.1, .num (p.2 : Nat)]
def pairK (p : Stt × Stt) : NestedKey := .tup [stK p.1, stK p.2]
theorem stK_inj : ∀ {a b : Stt}, stK a = stK b → a = b
  | none, none, _ => rfl
  | none, some _, h => by simp [stK] at h
  | some _, none, h => by simp [stK] at h
  | some (x, n), some (y, m), h => by
    simp only [stK, NestedKey.tup.injEq, List.cons.injEq, NestedKey.num.injEq] at h
    have : n = m := by omega
    rw [h.1, this]
theorem pairK_inj {p q : Stt × Stt} (h : pairK p = pairK q) : p = q := by
  simp only [pairK, NestedKey.tup.injEq, List.cons.injEq] at h
  exact Prod.ext (stK_inj h.1) (stK_inj h.2.1)
theorem stK_nk {H : Hp} {v : V} : ∀ {st : Stt}, SttV H v st → ND.NK H (stK st) v
  | none, h => by rw [stK, ND.NK]; exact h
  | some (s, n), ⟨b, e, h⟩ => by
    rw [stK, ND.NK]
    refine ⟨b, _, e, h, ?_⟩
    rw [ND.NKs]
    refine ⟨_, _, rfl, by rw [ND.NK], ?_⟩
    rw [ND.NKs]
    exact ⟨_, _, rfl, by rw [ND.NK], by rw [ND.NKs]⟩
theorem pairK_nk {H : Hp} {p : Addr} {v1 v2 : V} {q : Stt × Stt} (h : H p = some (.tup [v1, v2])) (h1 : SttV H v1 q.1) (h2 : SttV H v2 q.2) : ND.NK H (pairK q) (.ref p) := by
  rw [pairK, ND.NK]
  refine ⟨p, _, rfl, h, ?_⟩
  rw [ND.NKs]
  refine ⟨_, _, rfl, stK_nk h1, ?_⟩
  rw [ND.NKs]
  exact ⟨_, _, rfl, stK_nk h2, by rw [ND.NKs]⟩
theorem pairK_depth (q : Stt × Stt) : (pairK q).depth ≤ 8 := by
  obtain ⟨a, b⟩ := q
  cases a <;> cases b <;> simp [pairK, stK, NestedKey.depth, NestedKey.depthAll]
/-- the rows and what is known of them, behind what stood at H0 -/
structure AI (P : Program) (w : World) (H0 H : Hp) (lr dk : Addr) (rs : List Row) : Prop where
  same : Same H0 H
  n1 : H0 lr = none
  n2 : H0 dk = none
  ne : lr ≠ dk
  rows : ∃ vs, H lr = some (.lst vs) ∧ Paired (RowV H) vs rs
  keys : ∃ xs, H dk = some (ND.ndO P w dk xs) ∧ ND.Keys H xs ∧ xs.map (·.1) = rs.map fun r => pairK r.2
theorem getN_mem {xs : List ND.Ent} {rows : List Row} (e : xs.map (·.1) = rows.map fun r => pairK r.2) (q : Stt × Stt) : (ND.getN xs (pairK q)).isSome = decide (q ∈ rows.map (·.2)) := by
  by_cases h : q ∈ rows.map (·.2)
  · rw [decide_eq_true h]
    cases e1 : ND.getN xs (pairK q) with
    | some _ => rfl
    | none =>
      obtain ⟨r, hr, e2⟩ := List.mem_map.mp h
      have : pairK q ∈ xs.map (·.1) := by rw [e, ← e2]; exact List.mem_map_of_mem (f := fun r : Row => pairK r.2) hr
      obtain ⟨x, hx, e3⟩ := List.mem_map.mp this
      exact absurd e3 (ND.getN_none.mp e1 x hx)
  · rw [decide_eq_false h]
    have : ND.getN xs (pairK q) = none := by
      rw [ND.getN_none]
      intro x hx e3
      have : pairK q ∈ rows.map fun r => pairK r.2 := by rw [← e, ← e3]; exact List.mem_map_of_mem hx
      obtain ⟨r, hr, e4⟩ := List.mem_map.mp this
      exact h (List.mem_map.mpr ⟨r, hr, pairK_inj e4⟩)
    rw [this]; rfl
theorem AI.tup {P : Program} {w : World} {H0 H H' : Hp} {lr dk : Addr} {rows : List Row} (a : AI P w H0 H lr dk rows) (s : Same H H') : AI P w H0 H' lr dk rows := by
  obtain ⟨h1, h2, h3, h4, ⟨vs, h5, h6⟩, ⟨xs, h7, h8, h9⟩⟩ := a
  exact ⟨h1.trans s, h2, h3, h4, ⟨vs, s _ _ h5, Paired.mapP h6 fun _ _ => RowV.tup (Tup.of s)⟩, ⟨xs, s _ _ h7, h8.mono (Tup.of s), h9⟩⟩
section
variable {P : Program} {w : World} {K : PySem.W.Frag} {mg : Str → Option Value} {base : Heap}
theorem exc_TooMany (T : Txt K mg) : ∃ fd, FnOk P w K mg base C8.CX0 1 (He.ma K (He.ga K "TooMany") "__init__") fd ["self", "most"] (EX.spX (He.ga K "TooMany") "most") ∧ Binds K fd ["self", "most"] [] := by
  obtain ⟨fd, F⟩ := T.f_TooMany___init__
  refine ⟨fd, F.ok sc_TooMany___init__ (fun vs H Q E h => by obtain ⟨_, _, rfl, _⟩ := h; rfl) (fun cdv A outer s H vs Q E hr h => ?_), F.bindsN fun _ _ _ _ _ _ us hl => match us, hl with | [_, _], _ => rfl⟩
  obtain ⟨a, v, rfl, ha, q⟩ := h
  refine ⟨_, PSs.nox ((pss_cons (ps_expr (EX.pe_binit (by rfl) T.g_WaneError T.bin (pa_cons (pv 0) (pa_cons pe_str pa_nil)))) (pss_one (ps_ost (pv 0) (pv 1))))), ?_⟩
  refine ⟨_, rfl, a, He.ga K "TooMany", _, rfl, by show 1 ≤ 1000; decide, T.x_TooMany, ha, ?_⟩
  exact ⟨_, rfl, _, rfl, a, He.ga K "TooMany", rfl, T.x_TooMany, T.n_TooMany_most, .inl ⟨ha, fun dx nd ne => q dx nd ne⟩⟩
def spRow (K : PySem.W.Frag) : Sp := fun vs H Q _ => ∃ l, vs = [.str (rowS l)] ∧ l.length ≤ 200 ∧ ∀ H', Same H H' → Q (.bl true) H'
theorem cal_is_row (T : Txt K mg) : C8.Cal P w K mg base 1 "is_row" (spRow K) [] := by
  refine calD T.f_is_row T.g_is_row sc_is_row (fun fd F => F.bindsN fun _ _ _ _ _ _ us hl => match us, hl with | [_], _ => rfl) (fun vs H Q E h => by obtain ⟨_, rfl, _⟩ := h; rfl) fun cdv A outer s H vs Q E hr h => ?_
  refine ⟨_, (pss_cons (ps_if (PW.pt (pw_or (pt_not (pt_val (pe_callB call_isi (by rfl) T.b_isinstance (by decide +kernel) (pa_cons (pv 0) (pa_cons (pe_bltn (v := .ty "str") (by rfl) T.b_str (by decide +kernel) rfl) pa_nil))))) (pw_or1 (pt_cmpR op_gt (pe_callB call_len (by rfl) T.b_len (by decide +kernel) (pa_cons (pv 0) pa_nil)) (C8.pe_gc rfl T.c_LONGEST_ROW) (nomark _))))) (pss_one (ps_ret pe_bl)) pss_nil) (pss_one (ps_ret (pe_callB (cr_all rfl) (by rfl) T.b_all (by decide +kernel) (pa_cons (pe_lc (own := [("sign", 1)]) (by rfl) sc_is_row.nd (pi_str (pv 0)) (blkOk_by (own := [("sign", 1)]) (N := n_is_row) (sc := defScope s_is_row) (by decide +kernel)) (fun _ _ _ _ _ => (pg_name (i := 1) sc_is_row.nd rfl (by first | exact Or.inl rfl | exact Or.inr rfl))) (fun _ _ _ _ _ => pts_nil) (fun _ _ _ _ _ => (pe_cmpR op_in_sign (pv 1) pe_str rfl))) pa_nil))))), ?_⟩
  obtain ⟨l, rfl, hl, q⟩ := h
  have hlen := rowS_len l
  refine ⟨_, rfl, _, _, .type "str", _, _, rfl, .ty _, .base (.str _), T.kit (by simp [tys]) (by simp [cls]), _, rfl, ?_⟩
  refine iteF ⟨_, rfl, _, _, rfl, ⟨small1000 (by omega) |> Nat.le_of_lt, rfl⟩, _, _, rfl, rfl, _, rfl, ?_⟩
  rw [hlen, show decide ((200 : Int) < (l.length : Nat)) = false from decide_eq_false (by omega)]
  refine iteF ⟨_, rfl, _, rfl, fun D hD => ?_⟩
  refine lc_it walk_str (fun i H' => Same H H' ∧ H' D = some (.lst ((List.replicate i true).map V.bl))) ⟨same_new hD, upd_same⟩ (fun _ _ _ _ => trivial) ?_ ?_
  · rintro i x H1 H' hi ⟨s, hd⟩ ⟨rfl, c, hc, rfl⟩
    have hi2 : i < l.length := by simpa [rowS, SX.S] using hi
    have hcc : c = 46 ∨ c = 97 := by
      have : (l.map code)[i]? = some c := by simpa [rowS, SX.S] using hc
      rw [List.getElem?_map] at this
      obtain ⟨b, _, rfl⟩ := Option.map_eq_some_iff.mp this
      cases b <;> simp [code]
    refine ⟨rfl, _, rfl, c, _, rfl, rfl, _, hd, ?_, ?_, ?_⟩
    · rw [List.length_map, List.length_replicate]
      exact small1000 (by omega)
    · exact Same.mut s hD
    · have : decide (c ∈ (".a" : Str).cps.toList) = true := by rcases hcc with rfl | rfl <;> decide +kernel
      rw [upd_same, List.replicate_succ', List.map_append, this]; rfl
  · rintro H' ⟨s, hd⟩
    refine ⟨D, _, rfl, SqL.of hd, ?_⟩
    rw [all_true]
    exact q _ s
end
end WH

set_option maxHeartbeats 4000000
namespace WH
open PySem PySem.Spec PyProof.Rows L2
section
variable {P : Program} {w : World} {K : PySem.W.Frag} {mg : Str → Option Value} {base : Heap}
def spNeed (K : PySem.W.Frag) : Sp := fun vs H Q _ => ∃ a1 w1 s a2 w2 f m, vs = [.ref a1, .int s, .ref a2, .int f, .int m] ∧ WaneAt K H a1 w1 ∧ WaneAt K H a2 w2 ∧ 1 ≤ s ∧ s ≤ w1.cap ∧ 1 ≤ f ∧ f ≤ w2.cap ∧ 1 ≤ m ∧ m ≤ 400 ∧ ∀ H', Same H H' → Q .non H'
theorem cal_need_asked (T : Txt K mg) : C8.Cal P w K mg base 4 "need_asked" (spNeed K) [] := by
  refine calD T.f_need_asked T.g_need_asked sc_need_asked (fun fd F => F.bindsN fun _ _ _ _ _ _ us hl => match us, hl with | [_, _, _, _, _], _ => rfl) (fun vs H Q E h => by obtain ⟨_, _, _, _, _, _, _, rfl, _⟩ := h; rfl) fun cdv A outer s H vs Q E hr h => ?_
  refine ⟨_, (pss_cons (ps_for PassesOwn.never rfl (pi_list (pe_lst (pa_cons (pe_tup (pa_cons pe_int (pa_cons (pv 0) (pa_cons (pv 1) pa_nil)))) (pa_cons (pe_tup (pa_cons pe_int (pa_cons (pv 2) (pa_cons (pv 3) pa_nil)))) pa_nil)))) (pg_tup rfl (pgs_cons (pg_name (i := 5) sc_need_asked.nd rfl (by first | exact Or.inl rfl | exact Or.inr rfl)) (pgs_cons (pg_name (i := 6) sc_need_asked.nd rfl (by first | exact Or.inl rfl | exact Or.inr rfl)) (pgs_cons (pg_name (i := 7) sc_need_asked.nd rfl (by first | exact Or.inl rfl | exact Or.inr rfl)) pgs_nil)))) (pss_cons (ps_if (pt_not (pt_val (pe_callB call_isi (by rfl) T.b_isinstance (by decide +kernel) (pa_cons (pv 6) (pa_cons (C8.pe_gc (v := .ref (He.ga K "Wane")) rfl ⟨_, T.g_Wane, rfl⟩) pa_nil))))) (pss_one ps_never) pss_nil) (pss_one (ps_if (PW.pt (pw_or (pt_not (pt_val (C8.pe_c (cal_is_strength T) hr (by decide) rfl (pa_cons (pv 7) pa_nil)))) (pw_or1 (pt_cmpR op_gt (pv 7) (C8.pe_mt0 (met_Wane_cap T) hr (by decide) (pv 6)) (nomark _))))) (pss_one ps_never) pss_nil)))) (pss_one (ps_if (PW.pt (pw_or (pt_not (pt_val (C8.pe_c (cal_is_whole T) hr (by decide) rfl (pa_cons (pv 4) pa_nil)))) (pw_or1 (pt_not (pt_chain op_le op_le pe_int (pv 4) (C8.pe_gc rfl T.c_MOST_PAIRS)))))) (pss_one ps_never) pss_nil))), ?_⟩
  obtain ⟨a1, w1, s, a2, w2, f, m, rfl, hw1, hw2, s1, s2, f1, f2, m1, m2, q⟩ := h
  have c1 := hw1.ok.c2
  have c2 := hw2.ok.c2
  refine ⟨_, rfl, _, rfl, by show 3 ≤ sizeLine; decide, fun t1 n1 => ?_⟩
  refine ⟨_, rfl, _, rfl, by show 3 ≤ sizeLine; decide, fun t2 n2 => ?_⟩
  refine ⟨by show 2 ≤ sizeLine; decide, fun l nl => ⟨l, rfl, ⟨_, SqL.of upd_same⟩, ?_⟩⟩
  have S0 : Same H (upd (upd (upd H t1 (.tup [.int 0, .ref a1, .int s])) t2 (.tup [.int 2, .ref a2, .int f])) l (.lst [.ref t1, .ref t2])) := ((same_new n1).trans (same_new n2)).trans (same_new nl)
  generalize hG : upd (upd (upd H t1 (.tup [.int 0, .ref a1, .int s])) t2 (.tup [.int 2, .ref a2, .int f])) l (.lst [.ref t1, .ref t2]) = G at S0 ⊢
  have g1 : G t1 = some (.tup [.int 0, .ref a1, .int s]) := by rw [← hG]; exact same_new nl _ _ (same_new n2 _ _ upd_same)
  have g2 : G t2 = some (.tup [.int 2, .ref a2, .int f]) := by rw [← hG]; exact same_new nl _ _ upd_same
  have g3 : G l = some (.lst [.ref t1, .ref t2]) := by rw [← hG]; exact upd_same
  refine for_list (K := K) (a := l) (xs := [.ref t1, .ref t2]) (fun i σ H' => H' = G ∧ ∃ o5 o6 o7, σ = [some (.ref a1), some (.int s), some (.ref a2), some (.int f), some (.int m), o5, o6, o7]) ⟨rfl, _, _, _, rfl⟩ (fun i σ H' _ p => by rw [p.1]; exact SqL.of g3) ?_ ?_
  · rintro i x σ H' hi ⟨rfl, o5, o6, o7, rfl⟩
    have key : ∃ t pl a w n, x = .ref t ∧ H' t = some (.tup [.int pl, .ref a, .int n]) ∧ WaneAt K H' a w ∧ 1 ≤ n ∧ n ≤ w.cap := by
      match i, hi with
      | 0, hi => exact ⟨t1, 0, a1, w1, s, by simpa using hi.symm, g1, hw1.mono S0, s1, s2⟩
      | 1, hi => exact ⟨t2, 2, a2, w2, f, by simpa using hi.symm, g2, hw2.mono S0, f1, f2⟩
      | n + 2, hi => simp at hi
    obtain ⟨t, pl, a, w, n, rfl, ht, hw, k1, k2⟩ := key
    have c := hw.ok.c2
    obtain ⟨dx, h, t', e, _⟩ := id hw
    refine ⟨t, _, rfl, SqT.of ht, rfl, _, _, rfl, _, _, rfl, _, _, rfl, rfl, ?_⟩
    refine ⟨_, rfl, _, _, .ref (cW K), _, _, rfl, .own _, knw_wane T hw, T.kit (by simp [tys]) (by simp [cls]), _, rfl, ?_⟩
    rw [show isk (.ref (cW K)) (.ref (cW K)) = true by simp [isk]]
    refine iteF ⟨_, rfl, _, rfl, knw_int _, _, rfl, ?_⟩
    rw [wi_int k1 (by omega)]
    refine iteF ⟨_, rfl, _, rfl, a, dx, _, rfl, e, by kernel_rfl, a, w, rfl, hw, _, _, rfl, rfl, _, rfl, ?_⟩
    rw [show decide (w.cap < n) = false from decide_eq_false (by omega)]
    exact iteF ⟨rfl, _, _, _, rfl⟩
  · rintro σ H' ⟨rfl, o5, o6, o7, rfl⟩
    refine ⟨_, rfl, _, rfl, knw_int _, _, rfl, iteF ?_⟩
    refine ⟨_, rfl, _, _, rfl, rfl, _, rfl, ?_⟩
    rw [show decide ((1 : Int) ≤ m) = true from decide_eq_true m1]
    refine iteT ⟨_, _, rfl, rfl, _, rfl, ?_⟩
    rw [show decide (m ≤ (400 : Int)) = true from decide_eq_true m2]
    exact iteF (q _ S0)
/-- strength and since behind a row -/
def stepA (w : WN) (p : Int × Nat) (b : Bool) : Int × Nat := (if b then w.turn p.1 p.2 else w.ask p.1, w.nxt b p.2)
def stA (w : WN) (p : Int × Nat) (l : List Bool) : Int × Nat := l.foldl (stepA w) p
def PairV (H : Hp) (v : V) (x : Int × Nat) : Prop := ∃ b, v = .ref b ∧ H b = some (.tup [.int x.1, .int (x.2 : Nat)])
theorem PairV.tup {H H' : Hp} (s : Tup H H') {v : V} {x : Int × Nat} : PairV H v x → PairV H' v x := fun ⟨b, e, h⟩ => ⟨b, e, s _ _ h⟩
def alongS (w : WN) (p : Int × Nat) (l : List Bool) (k : Nat) : List (Int × Nat) := (List.range k).map fun j => stA w p (l.take j)
theorem take_snoc {α : Type} {l : List α} {i : Nat} {b : α} (h : l[i]? = some b) : l.take (i + 1) = l.take i ++ [b] := by
  rw [List.take_add_one, h]; rfl
theorem paired_snoc {α β : Type} {F : α → β → Prop} {a : List α} {b : List β} {x : α} {y : β} (p : Paired F a b) (r : F x y) : Paired F (a ++ [x]) (b ++ [y]) := ND.paired_app p (.cons r .nil)
end
end WH

set_option maxHeartbeats 4000000
namespace WH
open PySem PySem.Spec PyProof.Rows L2
section
variable {P : Program} {w : World} {K : PySem.W.Frag} {mg : Str → Option Value} {base : Heap}
abbrev cTM (K : PySem.W.Frag) : Addr := He.ga K "TooMany"
def spAlike (K : PySem.W.Frag) : Sp := fun vs H Q E => ∃ a1 w1 s a2 w2 f m, vs = [.ref a1, .int s, .ref a2, .int f, .int (m : Nat)] ∧ WaneAt K H a1 w1 ∧ WaneAt K H a2 w2 ∧ 1 ≤ s ∧ s ≤ w1.cap ∧ 1 ≤ f ∧ f ≤ w2.cap ∧ 1 ≤ m ∧ m ≤ 400 ∧
  (∀ k row p H' t, k < m → Clean w1 w2 s f k → (run w1 w2 s f k)[k]? = some (row, p) → parts p = true → Same H H' → H' t = some (.tup [.str "parted", .str (rowS row)]) → Q (.ref t) H') ∧
  (∀ k H' t l vs, Clean w1 w2 s f k → k = (run w1 w2 s f k).length → k ≤ m → Same H H' → H l = none → H' t = some (.tup [.str "alike", .ref l]) → H' l = some (.lst vs) → Paired (RowV H') vs (run w1 w2 s f k) → Q (.ref t) H') ∧
  (∀ d H', Clean w1 w2 s f m → m < (run w1 w2 s f m).length → Same H H' → H' d = some (.xd [("most", .int (m : Nat))]) → E (.ref (cTM K)) (some d) H')
def Ri (R : List Row) (w1 w2 : WN) (r : Row) : Nat → List Row
  | 0 => R
  | 1 => addR R (stp w1 w2 r true)
  | _ => addR (addR R (stp w1 w2 r true)) (stp w1 w2 r false)
theorem sttV_non {H : Hp} {v : V} : ∀ {st : Stt}, SttV H v st → decide (v = .non) = st.isNone
  | none, h => by have h : v = .non := h; subst h; rfl
  | some p, ⟨b, e, h⟩ => by subst e; rfl
theorem paired_at {α β : Type} {F : α → β → Prop} : ∀ {xs : List α} {ys : List β} {i : Nat} {y : β}, Paired F xs ys → ys[i]? = some y → ∃ x, xs[i]? = some x ∧ F x y
  | _, _, _, _, .nil, e => by simp at e
  | _, _, 0, _, .cons r _, e => by simp at e; subst e; exact ⟨_, rfl, r⟩
  | _, _, i + 1, x, .cons _ t, e => by
    obtain ⟨u, h1, h2⟩ := paired_at (i := i) (y := x) t (by simpa using e)
    exact ⟨u, by simpa using h1, h2⟩
theorem parts_eq {H : Hp} {v1 v2 : V} {q : Stt × Stt} (h1 : SttV H v1 q.1) (h2 : SttV H v2 q.2) : (!decide (V.bl (decide (v1 = .non)) = V.bl (decide (v2 = .non)))) = parts q := by
  rw [sttV_non h1, sttV_non h2, parts]
  cases q.1.isNone <;> cases q.2.isNone <;> rfl
/-- the new row stands -/
theorem AI.add {H0 H H1 H2 H3 : Hp} {lr dk p t1 t2 : Addr} {R : List Row} {q : Row} {v1 v2 : V} {vs : List V} {xs : List ND.Ent} (a : AI P w H0 H lr dk R)
    (hv : H lr = some (.lst vs)) (hx : H dk = some (ND.ndO P w dk xs)) (hk : ND.Keys H xs) (ek : xs.map (·.1) = R.map fun r => pairK r.2)
    (hp : H p = some (.tup [v1, v2])) (s1 : SttV H v1 q.2.1) (s2 : SttV H v2 q.2.2) (hn : q.2 ∉ R.map (·.2))
    (e1 : H1 = upd H dk (ND.ndO P w dk (xs ++ [(pairK q.2, p, .bl true)]))) (n1 : H1 t1 = none) (e2 : H2 = upd H1 t1 (.tup [.str (rowS q.1)])) (n2 : H2 t2 = none) (e3 : H3 = upd H2 t2 (.tup [.str (rowS q.1), v1, v2])) :
    H2 lr = some (.lst vs) ∧ H3 lr = some (.lst vs) ∧ AI P w H0 (upd H3 lr (.lst (vs ++ [.ref t2]))) lr dk (addR R q) ∧ Tup H (upd H3 lr (.lst (vs ++ [.ref t2]))) := by
  obtain ⟨h1, k1, k2, k4, ⟨vs', h5, h6⟩, _⟩ := a
  rw [hv] at h5; cases h5
  have T1 : Tup H H1 := by rw [e1]; exact Tup.upd fun vs e => by rw [hx] at e; cases e
  have S2 : Same H1 H2 := by rw [e2]; exact same_new n1
  have S3 : Same H2 H3 := by rw [e3]; exact same_new n2
  have l1 : H1 lr = some (.lst vs) := by rw [e1, upd_ne k4]; exact hv
  have l3 := S3 _ _ (S2 _ _ l1)
  have T4 : Tup H3 (upd H3 lr (.lst (vs ++ [.ref t2]))) := Tup.upd fun vs e => by rw [l3] at e; cases e
  have TT : Tup H (upd H3 lr (.lst (vs ++ [.ref t2]))) := ((T1.trans (Tup.of S2)).trans (Tup.of S3)).trans T4
  have d1 : H1 dk = some (ND.ndO P w dk (xs ++ [(pairK q.2, p, .bl true)])) := by rw [e1, upd_same]
  have sm : Same H0 H1 := by rw [e1]; exact Same.mut h1 k2
  refine ⟨S2 _ _ l1, l3, ⟨Same.mut ((sm.trans S2).trans S3) k1, k1, k2, k4, ⟨_, upd_same, ?_⟩, ⟨_, by rw [upd_ne (Ne.symm k4)]; exact S3 _ _ (S2 _ _ d1), ?_, ?_⟩⟩, TT⟩
  · unfold addR
    rw [if_neg hn]
    have tl : t2 ≠ lr := fun z => by rw [z, S2 _ _ l1] at n2; cases n2
    exact paired_snoc (Paired.mapP h6 fun _ _ => RowV.tup TT) ⟨t2, v1, v2, rfl, by rw [upd_ne tl, e3, upd_same], s1.tup TT, s2.tup TT⟩
  · intro x hx'
    rcases List.mem_append.mp hx' with hx' | hx'
    · exact hk.mono TT x hx'
    · rw [List.mem_singleton.mp hx']
      exact ⟨pairK_nk (TT _ _ hp) (s1.tup TT) (s2.tup TT), pairK_depth _⟩
  · unfold addR
    rw [if_neg hn, List.map_append, List.map_append, ek]; rfl
theorem fn_alike (T : Txt K mg) {fd : FuncData} (F : FD K d_alike fd) : FnOk P w K mg base (L2.CX P w) 6 (He.fAd K d_alike.at_) fd ["one", "strength", "other", "far", "most"] (spAlike K) := by
  refine F.ok sc_alike (fun vs H Q E h => by obtain ⟨_, _, _, _, _, _, _, rfl, _⟩ := h; rfl) fun cdv A outer s H vs Q E hr h => ?_
  obtain ⟨a1, w1, s, a2, w2, f, m, rfl, hw1, hw2, s1, s2, f1, f2, m1, m2, qP, qA, qT⟩ := h
  refine ⟨_, (pss_cons (ps_expr (C8.pe_c (cal_need_asked T) hr (by decide) rfl (pa_cons (pv 0) (pa_cons (pv 1) (pa_cons (pv 2) (pa_cons (pv 3) (pa_cons (pv 4) pa_nil))))))) (pss_cons (ps_set (i := 5) sc_alike.nd rfl (by first | exact Or.inl rfl | exact Or.inr rfl) (pe_lst (pa_cons (pe_tup (pa_cons pe_str (pa_cons (pe_tup (pa_cons (pv 1) (pa_cons pe_int pa_nil))) (pa_cons (pe_tup (pa_cons (pv 3) (pa_cons pe_int pa_nil))) pa_nil)))) pa_nil))) (pss_cons (ps_set (i := 6) sc_alike.nd rfl (by first | exact Or.inl rfl | exact Or.inr rfl) (ND.pe_none hr (pe_slice sl_tup (pe_ix ix_list (pv 5) pe_int (fun _ _ => rfl)) (po_some pe_int) po_none) pe_bl)) (pss_cons (ps_set (i := 7) sc_alike.nd rfl (by first | exact Or.inl rfl | exact Or.inr rfl) pe_int) (pss_cons (ps_while (passes_of rfl) (pt_cmpR op_lt (pv 7) (pe_callB (call_min2 rfl) (by rfl) T.b_min (by decide +kernel) (pa_cons (pv 4) (pa_cons (pe_callB call_len (by rfl) T.b_len (by decide +kernel) (pa_cons (pv 5) pa_nil)) pa_nil))) (nomark _)) (pss_cons (ps_asg (pe_ix ix_list (pv 5) (pv 7) (fun _ _ => rfl)) (pg_tup rfl (pgs_cons (pg_name (i := 8) sc_alike.nd rfl (by first | exact Or.inl rfl | exact Or.inr rfl)) (pgs_cons (pg_name (i := 9) sc_alike.nd rfl (by first | exact Or.inl rfl | exact Or.inr rfl)) (pgs_cons (pg_name (i := 10) sc_alike.nd rfl (by first | exact Or.inl rfl | exact Or.inr rfl)) pgs_nil))))) (pss_cons (ps_if (pt_cmpR op_ne (pe_cmpR op_isN (pv 9) pe_non (nomark _)) (pe_cmpR op_isN (pv 10) pe_non (nomark _)) (nomark _)) (pss_one (ps_ret (pe_tup (pa_cons pe_str (pa_cons (pv 8) pa_nil))))) pss_nil) (pss_cons (ps_for (passes_of rfl) rfl (pi_str (C8.pe_gc rfl T.c_SIGNS)) (pg_name (i := 11) sc_alike.nd rfl (by first | exact Or.inl rfl | exact Or.inr rfl)) (pss_cons (ps_set (i := 12) sc_alike.nd rfl (by first | exact Or.inl rfl | exact Or.inr rfl) (pe_tup (pa_cons (C8.pe_c (cal_led T) hr (by decide) rfl (pa_cons (pv 0) (pa_cons (pv 9) (pa_cons (pv 11) pa_nil)))) (pa_cons (C8.pe_c (cal_led T) hr (by decide) rfl (pa_cons (pv 2) (pa_cons (pv 10) (pa_cons (pv 11) pa_nil)))) pa_nil)))) (pss_one (ps_if (pt_cmp (ND.pc_nnotin hr (pv 12) (pv 6)) (by rfl)) (pss_cons (ND.ps_nput hr (pv 6) (pv 12) pe_bl) (pss_one (ps_expr (pe_bm PySem.F.plainAttrs_list PySem.F.slot_list_append PySem.F.type_list_append mt_append (pv 5) (pa_cons (pe_op op_catT (pe_tup (pa_cons (pe_op op_add_str (pv 8) (pv 11)) pa_nil)) (pv 12)) pa_nil))))) pss_nil)))) (pss_one (ps_aug (i := 7) sc_alike.nd rfl (by first | exact Or.inl rfl | exact Or.inr rfl) pe_int ip_add)))))) (pss_cons (ps_if (pt_cmpR op_gt (pe_callB call_len (by rfl) T.b_len (by decide +kernel) (pa_cons (pv 5) pa_nil)) (pv 4) (nomark _)) (pss_one (ps_raise rfl (takes_of rfl rfl rfl rfl) (EX.pmk_f (fI := He.ma K (He.ga K "TooMany") "__init__") T.x_TooMany T.xi_TooMany (exc_TooMany T) hr (by decide) rfl T.g_TooMany (pa_cons (pv 4) pa_nil)))) pss_nil) (pss_one (ps_ret (pe_tup (pa_cons pe_str (pa_cons (pv 5) pa_nil))))))))))), ?_⟩
  refine ⟨_, rfl, _, rfl, _, rfl, _, rfl, _, rfl, a1, w1, s, a2, w2, f, _, rfl, hw1, hw2, s1, s2, f1, f2, by omega, by omega, fun H1 S1 => ?_⟩
  refine ⟨_, rfl, by show 2 ≤ sizeLine; decide, fun t1 n1 => ?_⟩
  refine ⟨_, rfl, by show 2 ≤ sizeLine; decide, fun t2 n2 => ?_⟩
  refine ⟨by show 3 ≤ sizeLine; decide, fun t3 n3 => ⟨by show 1 ≤ sizeLine; decide, fun lr n4 => ?_⟩⟩
  have E1 : Same H1 (upd (upd (upd H1 t1 (.tup [.int s, .int 0])) t2 (.tup [.int f, .int 0])) t3 (.tup [.str "", .ref t1, .ref t2])) := ((same_new n1).trans (same_new n2)).trans (same_new n3)
  have g1 : (upd (upd (upd H1 t1 (.tup [.int s, .int 0])) t2 (.tup [.int f, .int 0])) t3 (.tup [.str "", .ref t1, .ref t2])) t1 = some (.tup [.int s, .int 0]) := same_new n3 _ _ (same_new n2 _ _ upd_same)
  have g2 : (upd (upd (upd H1 t1 (.tup [.int s, .int 0])) t2 (.tup [.int f, .int 0])) t3 (.tup [.str "", .ref t1, .ref t2])) t2 = some (.tup [.int f, .int 0]) := same_new n3 _ _ upd_same
  have g3 : (upd (upd (upd H1 t1 (.tup [.int s, .int 0])) t2 (.tup [.int f, .int 0])) t3 (.tup [.str "", .ref t1, .ref t2])) t3 = some (.tup [.str "", .ref t1, .ref t2]) := upd_same
  generalize (upd (upd (upd H1 t1 (.tup [.int s, .int 0])) t2 (.tup [.int f, .int 0])) t3 (.tup [.str "", .ref t1, .ref t2])) = G at E1 g1 g2 g3 n4 ⊢
  have S2 : Same H G := S1.trans E1
  have l0 : H lr = none := S2.free n4
  -- known
  intro dk n5
  have g4 : upd G lr (.lst [.ref t3]) dk = none := n5
  have S3 : Same G (upd (upd G lr (.lst [.ref t3])) dk (ND.ndO P w dk [])) := (same_new n4).trans (same_new n5)
  have hl : (upd (upd G lr (.lst [.ref t3])) dk (ND.ndO P w dk [])) lr = some (.lst [.ref t3]) := same_new n5 _ _ upd_same
  have hd : (upd (upd G lr (.lst [.ref t3])) dk (ND.ndO P w dk [])) dk = some (ND.ndO P w dk []) := upd_same
  have d0 : H dk = none := (S2.trans (same_new n4)).free n5
  have ld : lr ≠ dk := fun z => by rw [← z, upd_same] at n5; cases n5
  have g1 := S3 _ _ g1
  have g2 := S3 _ _ g2
  have g3 := S3 _ _ g3
  have S4 := S2.trans S3
  refine ⟨_, rfl, lr, _, _, _, rfl, rfl, SqL.of hl, rfl, ?_⟩
  refine ⟨_, rfl, t3, _, rfl, SqT.of g3, (show ¬ (HT.sIx 3 0 (some 1) = 0 ∧ HT.sIx 3 3 none = 3) by decide), fun p np => ?_⟩
  have S5 : Same (upd (upd G lr (.lst [.ref t3])) dk (ND.ndO P w dk [])) (upd (upd (upd G lr (.lst [.ref t3])) dk (ND.ndO P w dk [])) p (.tup [.ref t1, .ref t2])) := same_new np
  have hp : (upd (upd (upd G lr (.lst [.ref t3])) dk (ND.ndO P w dk [])) p (.tup [.ref t1, .ref t2])) p = some (.tup [.ref t1, .ref t2]) := upd_same
  refine ⟨S5 _ _ hd, p, pairK (some (s, 0), some (f, 0)), rfl, pairK_nk hp ⟨t1, rfl, S5 _ _ g1⟩ ⟨t2, rfl, S5 _ _ g2⟩, pairK_depth _, ?_⟩
  have g1 := S5 _ _ g1
  have g2 := S5 _ _ g2
  have g3 := S5 _ _ g3
  have hl := S5 _ _ hl
  have hd := S5 _ _ hd
  have S6 := S4.trans S5
  have nk := pairK_nk (q := (some (s, 0), some (f, 0))) hp ⟨t1, rfl, g1⟩ ⟨t2, rfl, g2⟩
  have TT : Tup (upd (upd (upd G lr (.lst [.ref t3])) dk (ND.ndO P w dk [])) p (.tup [.ref t1, .ref t2])) (upd (upd (upd (upd G lr (.lst [.ref t3])) dk (ND.ndO P w dk [])) p (.tup [.ref t1, .ref t2])) dk (ND.ndO P w dk [(pairK (some (s, 0), some (f, 0)), p, .bl true)])) := Tup.upd fun vs e => by rw [hd] at e; cases e
  have A0 : AI P w H (upd (upd (upd (upd G lr (.lst [.ref t3])) dk (ND.ndO P w dk [])) p (.tup [.ref t1, .ref t2])) dk (ND.ndO P w dk [(pairK (some (s, 0), some (f, 0)), p, .bl true)])) lr dk (run w1 w2 s f 0) := by
    refine ⟨Same.mut S6 d0, l0, d0, ld, ⟨_, by rw [upd_ne ld]; exact hl, .cons ⟨t3, _, _, rfl, TT _ _ g3, ⟨t1, rfl, TT _ _ g1⟩, ⟨t2, rfl, TT _ _ g2⟩⟩ .nil⟩, ⟨_, upd_same, fun x hx => ?_, rfl⟩⟩
    rw [List.mem_singleton.mp hx]
    exact ⟨ND.NK.mono TT _ _ nk, pairK_depth _⟩
  have o1 := hw1.ok
  have o2 := hw2.ok
  have ok0 : ∀ k, ∀ r ∈ run w1 w2 s f k, okRow w1 w2 k r := run_ok o1 o2 ⟨s1, s2, by have := o1.tpos; omega⟩ ⟨f1, f2, by have := o2.tpos; omega⟩
  -- the loop
  refine ⟨fun n σ H' => ∃ k o8 o9 o10 o11 o12, n = m - k ∧ k ≤ m ∧ k ≤ (run w1 w2 s f k).length ∧ Clean w1 w2 s f k ∧ AI P w H H' lr dk (run w1 w2 s f k) ∧
    σ = [some (.ref a1), some (.int s), some (.ref a2), some (.int f), some (.int (m : Nat)), some (.ref lr), some (.ref dk), some (.int (k : Nat)), o8, o9, o10, o11, o12],
    ⟨m, 0, _, _, _, _, _, rfl, Nat.zero_le _, Nat.zero_le _, fun j hj => absurd hj (Nat.not_lt_zero _), A0, rfl⟩, ?_⟩
  rintro n σ H' ⟨k, o8, o9, o10, o11, o12, rfl, km, kl, cl, A1, rfl⟩
  obtain ⟨vs, hv, hr'⟩ := A1.rows
  have hlen := paired_len hr'
  have hrl := run_len w1 w2 s f k
  refine ⟨_, rfl, _, rfl, _, rfl, _, _, rfl, .inl ⟨_, SqL.of hv, rfl⟩, _, _, rfl, _, _, rfl, rfl, _, rfl, ?_⟩
  refine ite2 (fun c => ?_) (fun c => ?_)
  · -- a turn
    have c := of_decide_eq_true c
    have km' : k < m := by split at c <;> omega
    have kl' : k < (run w1 w2 s f k).length := by split at c <;> omega
    have hk : (run w1 w2 s f k)[k]? = some (run w1 w2 s f k)[k] := List.getElem?_eq_getElem kl'
    generalize (run w1 w2 s f k)[k] = r at hk
    obtain ⟨x, hx, t, v1, v2, rfl, ht, sv1, sv2⟩ := paired_at hr' hk
    have okr := ok0 k r (List.mem_of_getElem? hk)
    refine ⟨fun σ H' => ∃ k' o8 o9 o10 o11 o12, k' = k + 1 ∧ k' ≤ (run w1 w2 s f k').length ∧ Clean w1 w2 s f k' ∧ AI P w H H' lr dk (run w1 w2 s f k') ∧
      σ = [some (.ref a1), some (.int s), some (.ref a2), some (.int f), some (.int (m : Nat)), some (.ref lr), some (.ref dk), some (.int (k' : Nat)), o8, o9, o10, o11, o12],
      fun σ' H'' ⟨k', o8, o9, o10, o11, o12, ek, h1, h2, h3, h4⟩ => ⟨m - k', by omega, k', o8, o9, o10, o11, o12, rfl, by omega, h1, h2, h3, h4⟩, ?_⟩
    refine ⟨_, rfl, _, rfl, lr, vs, _, _, rfl, rfl, SqL.of hv, atI_nat hx, t, _, rfl, SqT.of ht, rfl, _, _, rfl, _, _, rfl, _, _, rfl, rfl, ?_⟩
    refine ⟨_, rfl, rfl, _, rfl, rfl, rfl, _, rfl, ?_⟩
    rw [parts_eq sv1 sv2]
    cases hpq : parts r.2 with
    | true =>
      refine iteT ⟨_, rfl, by show 2 ≤ sizeLine; decide, fun t' nt' => ?_⟩
      exact qP k r.1 r.2 _ t' km' cl hk hpq (A1.same.trans (same_new nt')) upd_same
    | false =>
      refine iteF ?_
      have cl' : Clean w1 w2 s f (k + 1) := fun j hj => by
        by_cases e : j = k
        · rw [e]; exact ⟨r, hk, hpq⟩
        · exact cl j (by omega)
      have er : run w1 w2 s f (k + 1) = Ri (run w1 w2 s f k) w1 w2 r 2 := by
        show (match (run w1 w2 s f k)[k]? with | some r => _ | none => _) = _
        rw [hk]; rfl
      refine ⟨_, rfl, for_it walk_str (fun i σ H'' => ∃ o11 o12, AI P w H H'' lr dk (Ri (run w1 w2 s f k) w1 w2 r i) ∧ SttV H'' v1 r.2.1 ∧ SttV H'' v2 r.2.2 ∧
        σ = [some (.ref a1), some (.int s), some (.ref a2), some (.int f), some (.int (m : Nat)), some (.ref lr), some (.ref dk), some (.int (k : Nat)), some (.str (rowS r.1)), some v1, some v2, o11, o12])
        ⟨_, _, A1, sv1, sv2, rfl⟩ (fun _ _ _ _ _ => trivial) ?_ ?_⟩
      · rintro i x σ Ha Hb hi ⟨o11, o12, A2, u1, u2, rfl⟩ ⟨rfl, c', hc', rfl⟩
        have hi2 : i < 2 := hi
        obtain ⟨b, es, eR⟩ : ∃ b, V.str ⟨#[c']⟩ = V.str (sgn b) ∧ Ri (run w1 w2 s f k) w1 w2 r (i + 1) = addR (Ri (run w1 w2 s f k) w1 w2 r i) (stp w1 w2 r b) := by
          match i, hi2, hc' with
          | 0, _, hc' => exact ⟨true, by have : c' = 46 := (Option.some.inj hc').symm; rw [this]; decide +kernel, rfl⟩
          | 1, _, hc' => exact ⟨false, by have : c' = 97 := (Option.some.inj hc').symm; rw [this]; decide +kernel, rfl⟩
          | n + 2, h, _ => exact absurd h (by omega)
        have hRl : (Ri (run w1 w2 s f k) w1 w2 r i).length ≤ 2 * k + 3 := by
          have a := addR_len (run w1 w2 s f k) (stp w1 w2 r true)
          match i, hi2 with
          | 0, _ => show (run w1 w2 s f k).length ≤ _; omega
          | 1, _ => show (addR (run w1 w2 s f k) (stp w1 w2 r true)).length ≤ _; omega
          | n + 2, h => exact absurd h (by omega)
        rw [eR]
        generalize Ri (run w1 w2 s f k) w1 w2 r i = R at A2 hRl ⊢
        show tSeq _ _ _ (List.set _ 11 _) _
        rw [es]
        obtain ⟨dx1, _, _, e1, _⟩ := id (hw1.mono A2.same)
        refine ⟨_, rfl, _, rfl, _, rfl, a1, w1, v1, _, b, rfl, hw1.mono A2.same, u1, okr.a, fun x1 Hc S7 q1 => ?_⟩
        refine ⟨_, rfl, _, rfl, _, rfl, a2, w2, v2, _, b, rfl, hw2.mono (A2.same.trans S7), u2.mono S7, okr.b, fun x2 Hd S8 q2 => ?_⟩
        refine ⟨by show 2 ≤ sizeLine; decide, fun p np => ?_⟩
        have q1 := (q1.mono S8).mono (same_new np (o := .tup [x1, x2]))
        have q2 := q2.mono (same_new np (o := .tup [x1, x2]))
        have A3 := A2.tup ((S7.trans S8).trans (same_new np (o := .tup [x1, x2])))
        have u1 := u1.mono ((S7.trans S8).trans (same_new np (o := .tup [x1, x2])))
        have u2 := u2.mono ((S7.trans S8).trans (same_new np (o := .tup [x1, x2])))
        have hp : (upd Hd p (.tup [x1, x2])) p = some (.tup [x1, x2]) := upd_same
        generalize upd Hd p (.tup [x1, x2]) = He at q1 q2 A3 u1 u2 hp ⊢
        obtain ⟨vs, hv, hrr⟩ := A3.rows
        obtain ⟨xs, hx, hks, ek⟩ := A3.keys
        have hl1 := paired_len hrr
        have hl2 : xs.length = R.length := by have := congrArg List.length ek; simpa using this
        have nk := pairK_nk (q := (stp w1 w2 r b).2) hp q1 q2
        refine ⟨_, rfl, _, rfl, dk, p, _, xs, rfl, rfl, hx, hks, nk, pairK_depth _, _, rfl, ?_⟩
        show if (!(ND.getN xs (pairK (stp w1 w2 r b).2)).isSome) = true then _ else _
        rw [getN_mem ek]
        by_cases hin : (stp w1 w2 r b).2 ∈ R.map (·.2)
        · rw [decide_eq_true hin]
          refine iteF ⟨_, _, ?_, u1, u2, rfl⟩
          unfold addR
          rw [if_pos hin]; exact A3
        · rw [decide_eq_false hin]
          have gn : ND.getN xs (pairK (stp w1 w2 r b).2) = none := by
            have := getN_mem ek (stp w1 w2 r b).2
            rw [decide_eq_false hin] at this
            cases h : ND.getN xs (pairK (stp w1 w2 r b).2) with
            | none => rfl
            | some _ => rw [h] at this; cases this
          refine iteT ⟨_, rfl, _, rfl, dk, p, _, xs, rfl, rfl, hx, hks, nk, pairK_depth _, small1000 (by omega), gn, ?_⟩
          have hlv : upd He dk (ND.ndO P w dk (xs ++ [(pairK (stp w1 w2 r b).2, p, .bl true)])) lr = some (.lst vs) := by rw [upd_ne A3.ne]; exact hv
          have hpp : upd He dk (ND.ndO P w dk (xs ++ [(pairK (stp w1 w2 r b).2, p, .bl true)])) p = some (.tup [x1, x2]) := by
            rw [upd_ne (fun z => by rw [z, hx] at hp; cases hp)]; exact hp
          have hrow : (rowS r.1).length ≤ 400 := by rw [rowS_len]; have := okr.l; omega
          have esg : (sgn b).length = 1 := by rw [sgn_row, rowS_len]; rfl
          refine ⟨_, rfl, .inl ⟨rfl, _, SqL.of hlv⟩, _, rfl, _, rfl, _, _, rfl, rfl, by rw [esg]; exact Nat.le_of_lt (small1000 (by omega)), by show 1 ≤ sizeLine; decide, fun t1 n1 => ?_⟩
          have er1 : rowS r.1 ++ sgn b = rowS (stp w1 w2 r b).1 := by rw [sgn_row, rowS_app]; rfl
          refine ⟨_, rfl, t1, p, _, _, rfl, rfl, SqT.of upd_same, SqT.of (same_new n1 _ _ hpp), by simp, by show 3 ≤ sizeLine; decide, (fun z => nomatch z), fun _ t2 n2 => ?_⟩
          obtain ⟨m1', m2', m3', m4'⟩ := A3.add (H3 := upd _ t2 (.tup [.str (rowS r.1 ++ sgn b), x1, x2])) hv hx hks ek hp q1 q2 hin rfl n1 (by rw [← er1]; rfl) n2 (by rw [← er1])
          exact ⟨lr, vs, _, rfl, rfl, m2', by rw [hl1]; exact small1000 (by omega), _, _, m3', u1.tup m4', u2.tup m4', rfl⟩
      · rintro σ Ha ⟨o11, o12, A2, u1, u2, rfl⟩
        refine ⟨_, rfl, _, _, rfl, rfl, k + 1, _, _, _, _, _, rfl, ?_, cl', ?_, rfl⟩
        · rw [er]
          have a := addR_len (run w1 w2 s f k) (stp w1 w2 r true)
          have b := addR_len (addR (run w1 w2 s f k) (stp w1 w2 r true)) (stp w1 w2 r false)
          show k + 1 ≤ (addR (addR (run w1 w2 s f k) (stp w1 w2 r true)) (stp w1 w2 r false)).length
          omega
        · rw [er]; exact A2
  · have c : ¬ ((k : Int) < if ((vs.length : Nat) : Int) < (m : Int) then ((vs.length : Nat) : Int) else (m : Int)) := fun z => c (decide_eq_true z)
    have c2 : m ≤ k ∨ (run w1 w2 s f k).length ≤ k := by split at c <;> omega
    refine ⟨_, rfl, _, _, rfl, .inl ⟨_, SqL.of hv, rfl⟩, _, rfl, _, _, rfl, rfl, _, rfl, ?_⟩
    refine ite2 (fun c' => ?_) (fun c' => ?_)
    · have c' := of_decide_eq_true c'
      have ekm : k = m := by omega
      subst ekm
      refine ⟨_, rfl, EX.mkO_use fun d H'' S9 hd9 _ => ?_⟩
      exact qT d H'' cl (by omega) (A1.same.trans S9) hd9
    · have c' : ¬ ((m : Int) < (vs.length : Nat)) := fun z => c' (decide_eq_true z)
      refine ⟨_, rfl, by show 2 ≤ sizeLine; decide, fun t' nt' => ?_⟩
      exact qA k _ t' lr vs cl (by omega) km (A1.same.trans (same_new nt')) l0 upd_same (same_new nt' _ _ hv) (Paired.mapP hr' fun _ _ => RowV.tup (Tup.of (same_new nt')))
end
end WH

set_option maxHeartbeats 4000000
namespace WH
open PySem PySem.Spec PyProof.Rows L2
/-! ### the bag that draws -/
/-- all but what stands at b is as it was -/
def But (b : Addr) (H H' : Hp) : Prop := ∀ q o, q ≠ b → H q = some o → H' q = some o
theorem But.refl (b : Addr) (H : Hp) : But b H H := fun _ _ _ h => h
theorem But.trans {b : Addr} {H H1 H2 : Hp} (x : But b H H1) (y : But b H1 H2) : But b H H2 := fun q o n h => y q o n (x q o n h)
theorem But.of {b : Addr} {H H' : Hp} (s : Same H H') : But b H H' := fun q o _ h => s q o h
theorem But.upd {b : Addr} {H : Hp} {o : HO} : But b H (upd H b o) := fun q u n h => by rw [upd_ne n]; exact h
/-- a bag at b, its cells at c -/
structure BagC (H : Hp) (b : Addr) (cur seed idx : Int) (c : Addr) (ns : List Int) : Prop where
  b : H b = some (.lst [.int cur, .int seed, .int idx, .ref c])
  c : H c = some (.lst (ns.map V.int))
  h1 : 0 ≤ cur
  h2 : 0 ≤ seed
  h3 : 0 ≤ idx
  ns : ∀ n ∈ ns, 0 ≤ n
def Bag (H : Hp) (b c : Addr) : Prop := ∃ cur seed idx ns, BagC H b cur seed idx c ns
theorem BagC.ne {H : Hp} {b : Addr} {cur seed idx : Int} {c : Addr} {ns : List Int} (g : BagC H b cur seed idx c ns) : c ≠ b := fun z => by
  have h := g.c
  rw [z, g.b] at h
  match ns, h with
  | [], h => cases h
  | [_], h => cases h
  | [_, _], h => cases h
  | [_, _, _], h => cases h
  | _ :: _ :: _ :: _ :: _, h => simp at h
theorem BagC.put {H : Hp} {b : Addr} {cur seed idx : Int} {c : Addr} {ns : List Int} (g : BagC H b cur seed idx c ns) {cur' seed' idx' : Int} (h1 : 0 ≤ cur') (h2 : 0 ≤ seed') (h3 : 0 ≤ idx') :
    BagC (upd H b (.lst [.int cur', .int seed', .int idx', .ref c])) b cur' seed' idx' c ns := ⟨upd_same, by rw [upd_ne g.ne]; exact g.c, h1, h2, h3, g.ns⟩
section
variable {P : Program} {w : World} {K : PySem.W.Frag} {mg : Str → Option Value} {base : Heap}
def spTake : Sp := fun vs H Q _ => ∃ b c many, vs = [.ref b, .int many] ∧ Bag H b c ∧ 0 < many ∧ many < 1073741824 ∧ ∀ v H', 0 ≤ v → v < many → But b H H' → Bag H' b c → Q (.int v) H'
theorem cal__law_take (T : Txt K mg) : C8.Cal P w K mg base 1 "_law_take" spTake [] := by
  refine calD T.f__law_take T.g__law_take sc__law_take (fun fd F => F.bindsN fun _ _ _ _ _ _ us hl => match us, hl with | [_, _], _ => rfl) (fun vs H Q E h => by obtain ⟨_, _, _, rfl, _⟩ := h; rfl) fun cdv A outer s H vs Q E hr h => ?_
  refine ⟨_, (C8.pss_cut (ps_if (pt_cmpR op_eq (pe_ix ix_list (pv 0) pe_int (fun _ _ => rfl)) pe_int (nomark _)) (pss_cons (ps_set (i := 2) sc__law_take.nd rfl (by first | exact Or.inl rfl | exact Or.inr rfl) pe_int) (C8.pss_cut (ps_if (pt_cmpR op_lt (pe_ix ix_list (pv 0) pe_int (fun _ _ => rfl)) (pe_callB call_len (by rfl) T.b_len (by decide +kernel) (pa_cons (pe_ix ix_list (pv 0) pe_int (fun _ _ => rfl)) pa_nil)) (nomark _)) (pss_one (ps_set (i := 2) sc__law_take.nd rfl (by first | exact Or.inl rfl | exact Or.inr rfl) (pe_ix ix_list (pe_ix ix_list (pv 0) pe_int (fun _ _ => rfl)) (pe_ix ix_list (pv 0) pe_int (fun _ _ => rfl)) (fun _ _ => rfl)))) pss_nil) (pss_cons (ps_augS (pv 0) pe_int ND.get_list pe_int ip_add set_list) (C8.pss_cut (ps_if (pt_cmpR op_ge (pv 2) pe_int (nomark _)) (pss_one (ps_asg (pv 2) (pg_sub (pv 0) pe_int set_list))) pss_nil) (pss_one (ps_asg (pe_op op_mod (pe_op op_add (pe_op op_add (pe_op op_mul (pe_ix ix_list (pv 0) pe_int (fun _ _ => rfl)) pe_int) (pe_op op_mod (pv 2) pe_int)) (pe_op op_mul pe_int (pe_ix ix_list (pv 0) pe_int (fun _ _ => rfl)))) pe_int) (pg_sub (pv 0) pe_int set_list))))))) pss_nil) (pss_cons (ps_if (pt_cmpR op_gt (pe_ix ix_list (pv 0) pe_int (fun _ _ => rfl)) pe_int (nomark _)) (pss_cons (ps_set (i := 3) sc__law_take.nd rfl (by first | exact Or.inl rfl | exact Or.inr rfl) (pe_op op_mod (pe_ix ix_list (pv 0) pe_int (fun _ _ => rfl)) (pv 1))) (pss_cons (ps_asg (pe_op op_fdiv (pe_ix ix_list (pv 0) pe_int (fun _ _ => rfl)) (pv 1)) (pg_sub (pv 0) pe_int set_list)) (pss_one (ps_ret (pv 3))))) pss_nil) (pss_cons (ps_set (i := 4) sc__law_take.nd rfl (by first | exact Or.inl rfl | exact Or.inr rfl) (pe_op op_mod (pe_op op_mul (pe_op op_add (pe_ix ix_list (pv 0) pe_int (fun _ _ => rfl)) pe_int) pe_int) pe_int)) (pss_cons (ps_set (i := 5) sc__law_take.nd rfl (by first | exact Or.inl rfl | exact Or.inr rfl) (pe_op op_mod (pe_op op_mul (pe_op op_mod (pe_op op_mul (pv 4) (pv 4)) pe_int) pe_int) pe_int)) (pss_cons (ps_if (pt_cmpR op_gt (pv 1) pe_int (nomark _)) (pss_one (ps_ret (pe_op op_mod (pe_op op_add (pe_op op_mul (pv 5) pe_int) (pv 4)) (pv 1)))) pss_nil) (pss_one (ps_ret (pe_op op_mod (pe_op op_fdiv (pv 5) pe_int) (pv 1))))))))), ?_⟩
  obtain ⟨b, c, many, rfl, ⟨cur, seed, idx, ns, g⟩, m1, m2, q⟩ := h
  refine ⟨fun σ H' => ∃ o2, σ = [some (.ref b), some (.int many), o2, none, none, none] ∧ But b H H' ∧ ∃ cur seed idx, BagC H' b cur seed idx c ns, ?_, ?_⟩
  · refine ⟨_, rfl, b, _, _, _, rfl, rfl, SqL.of g.b, rfl, rfl, _, rfl, ite2 (fun z => ?_) fun z => ?_⟩
    · -- a cell
      refine ⟨fun σ H' => ∃ cell, σ = [some (.ref b), some (.int many), some (.int cell), none, none, none] ∧ H' = H ∧ 0 ≤ cell, ?_, ?_⟩
      · refine ⟨_, rfl, b, _, _, _, rfl, rfl, SqL.of g.b, rfl, _, rfl, b, _, _, _, rfl, rfl, SqL.of g.b, rfl, _, _, rfl, .inl ⟨_, SqL.of g.c, rfl⟩, _, _, rfl, rfl, _, rfl, ite2 (fun y => ?_) fun y => ?_⟩
        · have y := of_decide_eq_true y
          have h3 := g.h3
          rw [List.length_map] at y
          obtain ⟨k, rfl⟩ := Int.eq_ofNat_of_zero_le h3
          have hk : k < ns.length := by omega
          refine ⟨_, rfl, b, _, _, _, rfl, rfl, SqL.of g.b, rfl, _, rfl, b, _, _, _, rfl, rfl, SqL.of g.b, rfl, c, _, _, _, rfl, rfl, SqL.of g.c, atI_nat (by rw [List.getElem?_map, List.getElem?_eq_getElem hk]; rfl), _, rfl, rfl, g.ns _ (List.getElem_mem hk)⟩
        · exact ⟨0, rfl, rfl, Int.le_refl _⟩
      · rintro σ H' ⟨cell, rfl, rfl, c0⟩
        have h3 := g.h3
        refine ⟨_, rfl, b, _, _, _, rfl, rfl, by decide, SqL.of g.b, rfl, _, _, rfl, rfl, b, _, _, _, rfl, rfl, g.b, rfl, ?_⟩
        have g2 := g.put g.h1 g.h2 (show 0 ≤ idx + 1 by omega)
        have s2 : But b H' (upd H' b (.lst [.int cur, .int seed, .int (idx + 1), .ref c])) := But.upd
        show C8.tCut _ _ _ _ (upd H' b (.lst [.int cur, .int seed, .int (idx + 1), .ref c]))
        generalize upd H' b (.lst [.int cur, .int seed, .int (idx + 1), .ref c]) = H2 at g2 s2
        refine ⟨fun σ H'' => ∃ cur', σ = [some (.ref b), some (.int many), some (.int cell), none, none, none] ∧ But b H' H'' ∧ BagC H'' b cur' seed (idx + 1) c ns, ?_, ?_⟩
        · refine ⟨_, rfl, _, _, rfl, rfl, _, rfl, ite2 (fun y => ?_) fun y => ?_⟩
          · refine ⟨_, rfl, _, rfl, b, _, _, _, rfl, rfl, g2.b, rfl, cell, rfl, s2.trans But.upd, g2.put c0 g2.h2 g2.h3⟩
          · exact ⟨cur, rfl, s2, g2⟩
        · rintro σ H3 ⟨cur', rfl, s3, g3⟩
          refine ⟨_, rfl, b, _, _, _, rfl, rfl, SqL.of g3.b, rfl, _, _, rfl, rfl, .inr ⟨by decide, by decide⟩, _, rfl, _, _, rfl, rfl, by show (0 : Int) < 2147483647; decide, _, _, rfl, rfl, ?_⟩
          refine ⟨_, rfl, b, _, _, _, rfl, rfl, SqL.of g3.b, rfl, _, _, rfl, rfl, .inl ⟨by decide, by decide⟩, _, _, rfl, rfl, _, _, rfl, rfl, by show (0 : Int) < 2147483647; decide, ?_⟩
          refine ⟨_, rfl, b, _, _, _, rfl, rfl, g3.b, rfl, _, rfl, s3.trans But.upd, cur', _, idx + 1, g3.put g3.h1 (Int.emod_nonneg _ (by decide)) g3.h3⟩
    · exact ⟨_, rfl, But.refl _ _, cur, seed, idx, g⟩
  · rintro σ H' ⟨o2, rfl, s, cur, seed, idx, g⟩
    have hb := g.b
    refine ⟨_, rfl, b, _, _, _, rfl, rfl, SqL.of hb, rfl, _, _, rfl, rfl, _, rfl, ite2 (fun z => ?_) fun z => ?_⟩
    · refine ⟨_, rfl, b, _, _, _, rfl, rfl, SqL.of hb, rfl, _, rfl, _, _, rfl, rfl, m1, ?_⟩
      refine ⟨_, rfl, b, _, _, _, rfl, rfl, SqL.of hb, rfl, _, rfl, _, _, rfl, rfl, ⟨m1, m2⟩, ?_⟩
      refine ⟨_, rfl, b, _, _, _, rfl, rfl, hb, rfl, _, rfl, ?_⟩
      exact q _ _ (Int.emod_nonneg _ (by omega)) (Int.emod_lt_of_pos _ m1) (s.trans But.upd) ⟨_, _, _, ns, g.put (Int.ediv_nonneg g.h1 (by omega)) g.h2 g.h3⟩
    · have hs := g.h2
      refine ⟨_, rfl, b, _, _, _, rfl, rfl, SqL.of hb, rfl, _, _, rfl, rfl, _, _, rfl, rfl, .inr ⟨by decide, by decide⟩, _, _, rfl, rfl, by show (0 : Int) < 1000000007; decide, ?_⟩
      have f1 : 0 ≤ (seed + 1) * 39373 % 1000000007 := Int.emod_nonneg _ (by decide)
      have f2 : (seed + 1) * 39373 % 1000000007 < 1000000007 := Int.emod_lt_of_pos _ (by decide)
      refine ⟨_, rfl, _, rfl, _, _, rfl, rfl, .inl ⟨by omega, by omega⟩, _, _, rfl, rfl, by show (0 : Int) < 998244353; decide, _, _, rfl, rfl, .inr ⟨by decide, by decide⟩, _, _, rfl, rfl, by show (0 : Int) < 998244353; decide, ?_⟩
      refine ⟨_, rfl, _, _, rfl, rfl, _, rfl, ite2 (fun y => ?_) fun y => ?_⟩
      · refine ⟨_, rfl, _, _, rfl, rfl, .inr ⟨by decide, by decide⟩, _, rfl, _, _, rfl, rfl, _, rfl, _, _, rfl, rfl, m1, ?_⟩
        exact q _ _ (Int.emod_nonneg _ (by omega)) (Int.emod_lt_of_pos _ m1) s ⟨_, _, _, ns, g⟩
      · refine ⟨_, rfl, _, _, rfl, rfl, ⟨by decide, by decide⟩, _, rfl, _, _, rfl, rfl, m1, ?_⟩
        exact q _ _ (Int.emod_nonneg _ (by omega)) (Int.emod_lt_of_pos _ m1) s ⟨_, _, _, ns, g⟩
end
end WH

set_option maxHeartbeats 4000000
namespace WH
open PySem PySem.Spec PyProof.Rows L2
section
variable {P : Program} {w : World} {K : PySem.W.Frag} {mg : Str → Option Value} {base : Heap}
theorem But.mut {b p : Addr} {H H' : Hp} {o : HO} (s : But b H H') (n : H p = none) : But b H (L2.upd H' p o) := fun q u nq h => by
  rw [upd_ne (fun z => by rw [z, n] at h; cases h)]; exact s q u nq h
theorem But.same {b : Addr} {H H1 H2 : Hp} (x : But b H H1) (y : Same H1 H2) : But b H H2 := x.trans (But.of y)
theorem Bag.ne {H : Hp} {b c p : Addr} {vs : List V} {xs : List (Int × Int)} (g : Bag H b c) (hv : H p = some (.lst vs)) (hp : Paired (StepV H) vs xs) : p ≠ b := fun z => by
  obtain ⟨_, _, _, _, g⟩ := g
  rw [z, g.b] at hv; cases hv; cases hp with | cons r _ => obtain ⟨q, e, _⟩ := r; cases e
theorem BagC.same {H H' : Hp} {b c : Addr} {cur seed idx : Int} {ns : List Int} (g : BagC H b cur seed idx c ns) (s : Same H H') : BagC H' b cur seed idx c ns := ⟨s _ _ g.b, s _ _ g.c, g.h1, g.h2, g.h3, g.ns⟩
theorem Bag.same {H H' : Hp} {b c : Addr} (g : Bag H b c) (s : Same H H') : Bag H' b c := by
  obtain ⟨x, y, z, ns, g⟩ := g
  exact ⟨_, _, _, _, g.same s⟩
theorem Bag.nb {H : Hp} {b c p : Addr} (g : Bag H b c) (n : H p = none) : p ≠ b := fun z => by
  obtain ⟨_, _, _, _, g⟩ := g
  rw [z, g.b] at n; cases n
theorem Bag.put {H : Hp} {b c p : Addr} {o : HO} (g : Bag H b c) (n : p ≠ b) (m : p ≠ c) : Bag (L2.upd H p o) b c := by
  obtain ⟨x, y, z, ns, g⟩ := g
  exact ⟨x, y, z, ns, by rw [upd_ne (Ne.symm n)]; exact g.b, by rw [upd_ne (Ne.symm m)]; exact g.c, g.h1, g.h2, g.h3, g.ns⟩
theorem StepV.but {H H' : Hp} {b c : Addr} (g : Bag H b c) (s : But b H H') {v : V} {x : Int × Int} (h : StepV H v x) : StepV H' v x := by
  obtain ⟨a, rfl, h⟩ := h
  obtain ⟨_, _, _, _, g⟩ := g
  exact ⟨a, rfl, s _ _ (fun z => by rw [z, g.b] at h; cases h) h⟩
theorem Steps.but {H H' : Hp} {b c : Addr} (g : Bag H b c) (s : But b H H') {a : Addr} {xs : List (Int × Int)} (h : Steps H a xs) : Steps H' a xs := by
  obtain ⟨vs, h, p⟩ := h
  obtain ⟨_, _, _, _, g'⟩ := id g
  refine ⟨vs, s _ _ (fun z => ?_) h, Paired.mapP p fun _ _ => StepV.but g s⟩
  rw [z, g'.b] at h
  cases h
  cases p with
  | cons r _ => obtain ⟨q, e, _⟩ := r; cases e
def okT (x : Int × Int) : Prop := 1 ≤ x.1 ∧ x.1 ≤ 9 ∧ 0 ≤ x.2 ∧ x.2 ≤ 9
theorem okT.s {x : Int × Int} (h : okT x) : okS x := ⟨h.1, h.2.1, h.2.2.1, by have := h.2.2.2; omega⟩
def PlanV (H : Hp) (v : V) (w : WN) : Prop := ∃ p ah at_, v = .ref p ∧ H p = some (.tup [.ref ah, .ref at_, .int w.cap, .int w.lift, .bl w.anew]) ∧ Steps H ah w.head ∧ Steps H at_ w.tail
theorem PlanV.but {H H' : Hp} {b c : Addr} (g : Bag H b c) (s : But b H H') {v : V} {w : WN} (h : PlanV H v w) : PlanV H' v w := by
  obtain ⟨p, ah, at_, rfl, h, s1, s2⟩ := h
  obtain ⟨_, _, _, _, g'⟩ := id g
  exact ⟨p, ah, at_, rfl, s _ _ (fun z => by rw [z, g'.b] at h; cases h) h, s1.but g s, s2.but g s⟩
theorem PlanV.mono {H H' : Hp} (s : Same H H') {v : V} {w : WN} (h : PlanV H v w) : PlanV H' v w := by
  obtain ⟨p, ah, at_, rfl, h, s1, s2⟩ := h
  exact ⟨p, ah, at_, rfl, s _ _ h, s1.mono s, s2.mono s⟩
def spBag (K : PySem.W.Frag) : Sp := fun vs H Q _ => ∃ (a : Addr) (ns : List Int), vs = [.ref a] ∧ SqL K H a (ns.map V.int) ∧ ∀ b c H', Same H H' → H b = none → Bag H' b c → Q (.ref b) H'
theorem cal__law_bag (T : Txt K mg) : C8.Cal P w K mg base 1 "_law_bag" (spBag K) [] := by
  refine calD T.f__law_bag T.g__law_bag sc__law_bag (fun fd F => F.bindsN fun _ _ _ _ _ _ us hl => match us, hl with | [_], _ => rfl) (fun vs H Q E h => by obtain ⟨_, _, rfl, _⟩ := h; rfl) fun cdv A outer s H vs Q E hr h => ?_
  refine ⟨_, (pss_one (ps_ret (pe_lst (pa_cons pe_int (pa_cons pe_int (pa_cons pe_int (pa_cons (pe_lc (own := [("_law_cell", 1)]) (by rfl) sc__law_bag.nd (pi_list (pe_slice sl_list (pv 0) po_none (po_some pe_int))) (blkOk_by (own := [("_law_cell", 1)]) (N := n__law_bag) (sc := defScope s__law_bag) (by decide +kernel)) (fun _ _ _ _ _ => (pg_name (i := 1) sc__law_bag.nd rfl (by first | exact Or.inl rfl | exact Or.inr rfl))) (fun _ _ _ _ _ => pts_nil) (fun _ _ _ _ _ => (pe_callB call_abs (by rfl) T.b_abs (by decide +kernel) (pa_cons (pv 1) pa_nil)))) pa_nil))))))), ?_⟩
  obtain ⟨a, ns, rfl, hs, q⟩ := h
  refine ⟨_, rfl, _, rfl, a, _, rfl, hs, fun l nl => ⟨l, rfl, ⟨_, SqL.of upd_same⟩, fun D nD => ?_⟩⟩
  obtain ⟨ms, ec, el⟩ : ∃ ms : List Int, cutV (ns.map V.int) none (some 63) = ms.map V.int ∧ ms.length ≤ 63 := by
    have e : HT.sIx (ns.map V.int).length (ns.map V.int).length (some 63) = min 63 (ns.map V.int).length := HT.sIx_nat _ _ 63
    refine ⟨(ns.drop 0).take (min 63 (ns.map V.int).length), ?_, ?_⟩
    · unfold cutV
      rw [e, HT.sIx_none, Nat.sub_zero, List.map_take, List.map_drop]
    · rw [List.length_take]; omega
  rw [ec] at nD ⊢
  have s1 : Same H (upd H l (.lst (ms.map V.int))) := same_new nl
  have hl : (upd H l (.lst (ms.map V.int))) l = some (.lst (ms.map V.int)) := upd_same
  generalize (upd H l (.lst (ms.map V.int))) = H1 at s1 hl nD ⊢
  refine lc_list (K := K) (a := l) (xs := ms.map V.int) (fun i H' => Same H1 H' ∧ ∃ ks : List Int, H' D = some (.lst (ks.map V.int)) ∧ ks.length = i ∧ ∀ n ∈ ks, 0 ≤ n) ⟨same_new nD, [], upd_same, rfl, by simp⟩ (fun i H' _ p => SqL.of (p.1 _ _ hl)) ?_ ?_
  · rintro i x H' hi ⟨s2, ks, hk, hkl, hk0⟩
    have hi2 := (List.getElem?_eq_some_iff.mp hi).1
    rw [List.length_map] at hi2
    rw [List.getElem?_map] at hi
    obtain ⟨n, _, rfl⟩ := Option.map_eq_some_iff.mp hi
    refine ⟨rfl, _, rfl, n, rfl, _, hk, ?_, Same.mut s2 nD, ks ++ [if n < 0 then -n else n], ?_, by simp [hkl], ?_⟩
    · rw [List.length_map]; exact small1000 (by omega)
    · rw [upd_same, List.map_append]; rfl
    · intro m hm
      rcases List.mem_append.mp hm with hm | hm
      · exact hk0 m hm
      · rw [List.mem_singleton.mp hm]; split <;> omega
  · rintro H' ⟨s2, ks, hk, hkl, hk0⟩
    refine ⟨by show 4 ≤ sizeLine; decide, fun p np => q p D _ ((s1.trans s2).trans (same_new np)) ((s1.trans s2).free np) ⟨0, 1234567891, 0, ks, upd_same, same_new np _ _ hk, by decide, by decide, by decide, hk0⟩⟩
theorem pick4 {a b c d v : Int} (h0 : 0 ≤ v) (h1 : v < 4) : ∃ y, (y = a ∨ y = b ∨ y = c ∨ y = d) ∧ atI [V.int a, V.int b, V.int c, V.int d] v = some (.int y) := by
  obtain rfl | rfl | rfl | rfl : v = 0 ∨ v = 1 ∨ v = 2 ∨ v = 3 := by omega
  · exact ⟨a, by simp, rfl⟩
  · exact ⟨b, by simp, rfl⟩
  · exact ⟨c, by simp, rfl⟩
  · exact ⟨d, by simp, rfl⟩
def spSteps : Sp := fun vs H Q _ => ∃ b c n, vs = [.ref b, .int (n : Nat)] ∧ n ≤ 24 ∧ Bag H b c ∧ ∀ p xs H', But b H H' → H p = none → Bag H' b c → Steps H' p xs → (∀ x ∈ xs, okT x) → xs.length = n → Q (.ref p) H'
theorem cal__law_steps (T : Txt K mg) : C8.Cal P w K mg base 2 "_law_steps" spSteps [] := by
  refine calD T.f__law_steps T.g__law_steps sc__law_steps (fun fd F => F.bindsN fun _ _ _ _ _ _ us hl => match us, hl with | [_, _], _ => rfl) (fun vs H Q E h => by obtain ⟨_, _, _, rfl, _⟩ := h; rfl) fun cdv A outer s H vs Q E hr h => ?_
  refine ⟨_, (pss_cons (ps_set (i := 2) sc__law_steps.nd rfl (by first | exact Or.inl rfl | exact Or.inr rfl) (pe_lst pa_nil)) (pss_cons (ps_for PassesOwn.never rfl (pi_range1 (by rfl) T.b_range (pa_cons (pv 1) pa_nil)) (pg_name (i := 3) sc__law_steps.nd rfl (by first | exact Or.inl rfl | exact Or.inr rfl)) (pss_cons (ps_set (i := 4) sc__law_steps.nd rfl (by first | exact Or.inl rfl | exact Or.inr rfl) (pe_ix ix_list (pe_lst (pa_cons pe_int (pa_cons pe_int (pa_cons (pe_op op_add pe_int (C8.pe_c (cal__law_take T) hr (by decide) rfl (pa_cons (pv 0) (pa_cons pe_int pa_nil)))) (pa_cons pe_int pa_nil))))) (C8.pe_c (cal__law_take T) hr (by decide) rfl (pa_cons (pv 0) (pa_cons pe_int pa_nil))) (fun _ _ => rfl))) (pss_one (ps_expr (pe_bm PySem.F.plainAttrs_list PySem.F.slot_list_append PySem.F.type_list_append mt_append (pv 2) (pa_cons (pe_tup (pa_cons (pv 4) (pa_cons (C8.pe_c (cal__law_take T) hr (by decide) rfl (pa_cons (pv 0) (pa_cons pe_int pa_nil))) pa_nil))) pa_nil)))))) (pss_one (ps_ret (pv 2))))), ?_⟩
  obtain ⟨b, c, n, rfl, hn, g, q⟩ := h
  have g0 := g
  refine ⟨by decide, fun p np => ?_⟩
  refine ⟨_, rfl, _, rfl, by omega, by omega, for_range (n := n) (fun i σ H' => ∃ vs xs o3 o4, But b H H' ∧ Bag H' b c ∧ H' p = some (.lst vs) ∧ Paired (StepV H') vs xs ∧ (∀ x ∈ xs, okT x) ∧ xs.length = i ∧ σ = [some (.ref b), some (.int (n : Nat)), some (.ref p), o3, o4]) ?_ ?_ ?_⟩
  · exact ⟨[], [], _, _, (But.refl b H).same (same_new np), g.same (same_new np), upd_same, .nil, by simp, rfl, rfl⟩
  · rintro i σ H' hi ⟨vs, xs, o3, o4, s, g, hv, hp, ok, hl, rfl⟩
    have hvl := paired_len hp
    refine ⟨_, rfl, b, c, 3, rfl, g, by decide, by decide, fun v1 H1 a1 a2 s1 g1 => ⟨_, _, rfl, rfl, by show 4 ≤ sizeLine; decide, fun l nl => ?_⟩⟩
    refine ⟨_, rfl, b, c, 4, rfl, g1.same (same_new nl), by decide, by decide, fun v2 H2 r1 r2 s2 g2 => ?_⟩
    have s12 := (s1.same (same_new nl (o := .lst [.int 1, .int 1, .int (1 + v1), .int 9]))).trans s2
    have lb : l ≠ b := fun z => by
      obtain ⟨_, _, _, _, g1⟩ := g1
      rw [z, g1.b] at nl; cases nl
    obtain ⟨by_, hby, e⟩ := pick4 (a := 1) (b := 1) (c := 1 + v1) (d := 9) r1 r2
    refine ⟨l, _, _, _, rfl, rfl, SqL.of (s2 _ _ lb upd_same), e, ?_⟩
    have s3 := s.trans s12
    have pb : p ≠ b := g.ne hv hp
    have pc : p ≠ c := fun z => by rw [z] at np; obtain ⟨_, _, _, _, g⟩ := g0; rw [g.c] at np; cases np
    have hv2 := s12 _ _ pb hv
    refine ⟨_, rfl, .inl ⟨rfl, _, SqL.of hv2⟩, _, rfl, _, rfl, b, c, 3, rfl, g2, by decide, by decide, fun v3 H3 d1 d2 s4 g3 => ⟨by show 2 ≤ sizeLine; decide, fun t nt => ?_⟩⟩
    have s5 := (s12.trans s4).same (same_new nt (o := .tup [.int by_, .int v3]))
    have hv3 := s5 _ _ pb hv
    refine ⟨p, vs, _, rfl, rfl, hv3, small1000 (by omega), ?_⟩
    have s6 := (s.trans s5).mut (o := .lst (vs ++ [.ref t])) np
    have g4 : Bag (upd (upd H3 t (.tup [.int by_, .int v3])) p (.lst (vs ++ [.ref t]))) b c := (g3.same (same_new nt)).put pb pc
    have tp : t ≠ p := fun z => by rw [z, s4 _ _ pb hv2] at nt; cases nt
    refine ⟨_, xs ++ [(by_, v3)], _, _, s6, g4, upd_same, paired_snoc (Paired.mapP hp fun v x h => ?_) ⟨t, rfl, by rw [upd_ne tp, upd_same]⟩, ?_, by simp [hl], rfl⟩
    · obtain ⟨a, rfl, h'⟩ := h.but g s5
      obtain ⟨_, e, h0⟩ := h
      cases e
      exact ⟨a, rfl, by rw [upd_ne (fun z => by rw [z, hv] at h0; cases h0)]; exact h'⟩
    · intro x hx
      rcases List.mem_append.mp hx with hx | hx
      · exact ok x hx
      · rw [List.mem_singleton.mp hx]
        exact ⟨by show 1 ≤ by_; omega, by show by_ ≤ 9; omega, d1, by show v3 ≤ 9; omega⟩
  · rintro σ H' ⟨vs, xs, o3, o4, s, g, hv, hp, ok, hl, rfl⟩
    exact ⟨_, rfl, q p xs H' s np g ⟨vs, hv, hp⟩ ok hl⟩
end
end WH

set_option maxHeartbeats 4000000
namespace WH
open PySem PySem.Spec PyProof.Rows L2
section
variable {P : Program} {w : World} {K : PySem.W.Frag} {mg : Str → Option Value} {base : Heap}
/-- a drawn plan -/
structure okP (w : WN) : Prop where
  h : ∀ x ∈ w.head, okT x
  hl : w.head.length ≤ 3
  t : ∀ x ∈ w.tail, okT x
  tl : w.tail.length = 1 ∨ w.tail.length = 2 ∨ w.tail.length = 3
  c1 : 1 ≤ w.cap
  c2 : w.cap ≤ 1000
  l1 : 0 ≤ w.lift
  l2 : w.lift ≤ w.cap
def spPlan : Sp := fun vs H Q _ => ∃ b c n, vs = [.ref b, .int n] ∧ 1 ≤ n ∧ n ≤ 1000 ∧ Bag H b c ∧ ∀ v w H', But b H H' → Bag H' b c → PlanV H' v w → okP w → Q v H'
theorem cal__law_plan (T : Txt K mg) : C8.Cal P w K mg base 3 "_law_plan" spPlan [] := by
  refine calD T.f__law_plan T.g__law_plan sc__law_plan (fun fd F => F.bindsN fun _ _ _ _ _ _ us hl => match us, hl with | [_, _], _ => rfl) (fun vs H Q E h => by obtain ⟨_, _, _, rfl, _⟩ := h; rfl) fun cdv A outer s H vs Q E hr h => ?_
  refine ⟨_, (pss_cons (ps_set (i := 2) sc__law_plan.nd rfl (by first | exact Or.inl rfl | exact Or.inr rfl) (C8.pe_c (cal__law_steps T) hr (by decide) rfl (pa_cons (pv 0) (pa_cons (pe_ix ix_list (pe_lst (pa_cons pe_int (pa_cons pe_int (pa_cons pe_int (pa_cons pe_int pa_nil))))) (C8.pe_c (cal__law_take T) hr (by decide) rfl (pa_cons (pv 0) (pa_cons pe_int pa_nil))) (fun _ _ => rfl)) pa_nil)))) (pss_cons (ps_set (i := 3) sc__law_plan.nd rfl (by first | exact Or.inl rfl | exact Or.inr rfl) (C8.pe_c (cal__law_steps T) hr (by decide) rfl (pa_cons (pv 0) (pa_cons (pe_ix ix_list (pe_lst (pa_cons pe_int (pa_cons pe_int (pa_cons pe_int (pa_cons pe_int pa_nil))))) (C8.pe_c (cal__law_take T) hr (by decide) rfl (pa_cons (pv 0) (pa_cons pe_int pa_nil))) (fun _ _ => rfl)) pa_nil)))) (pss_cons (ps_set (i := 4) sc__law_plan.nd rfl (by first | exact Or.inl rfl | exact Or.inr rfl) (pe_op op_add pe_int (C8.pe_c (cal__law_take T) hr (by decide) rfl (pa_cons (pv 0) (pa_cons (pv 1) pa_nil))))) (pss_one (ps_ret (pe_tup (pa_cons (pv 2) (pa_cons (pv 3) (pa_cons (pv 4) (pa_cons (C8.pe_c (cal__law_take T) hr (by decide) rfl (pa_cons (pv 0) (pa_cons (pe_op op_add (pv 4) pe_int) pa_nil))) (pa_cons (pe_cmpR op_eq (C8.pe_c (cal__law_take T) hr (by decide) rfl (pa_cons (pv 0) (pa_cons pe_int pa_nil))) pe_int (nomark _)) pa_nil))))))))))), ?_⟩
  obtain ⟨b, c, n, rfl, n1, n2, g, q⟩ := h
  refine ⟨_, rfl, by show 4 ≤ sizeLine; decide, fun l nl => ?_⟩
  refine ⟨_, rfl, b, c, 4, rfl, g.same (same_new nl), by decide, by decide, fun v1 H1 a1 a2 s1 g1 => ?_⟩
  obtain ⟨y, hy, e⟩ := pick4 (a := 0) (b := 0) (c := 1) (d := 3) a1 a2
  refine ⟨l, _, _, _, rfl, rfl, SqL.of (s1 _ _ (g.nb nl) upd_same), e, ?_⟩
  obtain ⟨m, rfl⟩ : ∃ m : Nat, y = m := Int.eq_ofNat_of_zero_le (by omega)
  refine ⟨b, c, m, rfl, by omega, g1, fun p xs H2 s2 np g2 sh okh lh => ?_⟩
  refine ⟨_, rfl, by show 4 ≤ sizeLine; decide, fun l2 nl2 => ?_⟩
  refine ⟨_, rfl, b, c, 4, rfl, g2.same (same_new nl2), by decide, by decide, fun v2 H3 r1 r2 s3 g3 => ?_⟩
  obtain ⟨y2, hy2, e2⟩ := pick4 (a := 1) (b := 1) (c := 2) (d := 3) r1 r2
  refine ⟨l2, _, _, _, rfl, rfl, SqL.of (s3 _ _ (g2.nb nl2) upd_same), e2, ?_⟩
  obtain ⟨m2, rfl⟩ : ∃ m : Nat, y2 = m := Int.eq_ofNat_of_zero_le (by omega)
  refine ⟨b, c, m2, rfl, by omega, g3, fun p2 xs2 H4 s4 np2 g4 st okt lt => ?_⟩
  have sh := ((sh.mono (same_new nl2 (o := .lst [.int 1, .int 1, .int 2, .int 3]))).but (g2.same (same_new nl2)) s3).but g3 s4
  refine ⟨_, rfl, _, rfl, b, c, n, rfl, g4, by omega, by omega, fun v3 H5 c1 c2 s5 g5 => ⟨_, _, rfl, rfl, ?_⟩⟩
  have sh := sh.but g4 s5
  have st := st.but g4 s5
  refine ⟨_, rfl, _, rfl, _, rfl, _, rfl, _, rfl, _, _, rfl, rfl, b, c, _, rfl, g5, by omega, by omega, fun v4 H6 d1 d2 s6 g6 => ?_⟩
  have sh := sh.but g5 s6
  have st := st.but g5 s6
  refine ⟨_, rfl, b, c, 2, rfl, g6, by decide, by decide, fun v5 H7 e1 e2 s7 g7 => ⟨rfl, by show 5 ≤ sizeLine; decide, fun r nr => ?_⟩⟩
  have sh := (sh.but g6 s7).mono (same_new nr (o := .tup [.ref p, .ref p2, .int (1 + v3), .int v4, .bl (decide (V.int v5 = V.int 0))]))
  have st := (st.but g6 s7).mono (same_new nr (o := .tup [.ref p, .ref p2, .int (1 + v3), .int v4, .bl (decide (V.int v5 = V.int 0))]))
  refine q _ ⟨xs, xs2, 1 + v3, v4, decide (V.int v5 = V.int 0)⟩ _ ?_ (g7.same (same_new nr)) ⟨r, p, p2, rfl, upd_same, sh, st⟩ ⟨okh, by show xs.length ≤ 3; omega, okt, by show xs2.length = 1 ∨ xs2.length = 2 ∨ xs2.length = 3; omega, by show 1 ≤ 1 + v3; omega, by show 1 + v3 ≤ 1000; omega, d1, by show v4 ≤ 1 + v3; omega⟩
  exact (((((((But.of (same_new nl)).trans s1).trans s2).same (same_new nl2)).trans s3).trans s4).trans s5).trans ((s6.trans s7).same (same_new nr))
section
variable {X : Cx} {k j n : Nat} {f C : Addr} {ps ks : List Str} {sp : Sp} {x : Str} {p pos : Pos} {e : Expr} {es : List Expr} {kws : List Keyword} {t tk : TA} {gV : List V → List V → List V} 
theorem pe_mkK (M : Mk X.K C f) (c : ∃ fd g, FnOk X.prog X.w X.K X.mg X.base C8.CX0 k f fd ps sp ∧ KBn X.K fd ps (n + 1) ks g gV) (hr : Room j X.A) (hk : k + 1 ≤ j) (hg : Gl X x) (hm : X.mg x = some (.ref C)) (ha : PA X (e :: es) t) (hkw : PK X kws tk)
    (hall : (backToKw pos (keywordEach kws X.env)).all (·.1.isSome) = true := by rfl) (hks : (backToKw pos (keywordEach kws X.env)).filterMap (·.1) = ks := by rfl) (hdb : (x == ("__debug__" : Str)) = false := by decide)
    (he : starEach (e :: es) X.env = (false, eval e X.env) :: starEach es X.env := by rfl) (hpl : ((backTo pos (starEach (e :: es) X.env)).any (·.1) || (backToKw pos (keywordEach kws X.env)).any (·.1.isNone)) = false := by rfl) :
    PE X (.Call (.Name x p) (e :: es) kws pos) (tMakeK C n ks.length sp gV C8.E0 t tk) := by
  obtain ⟨fd, g, F, b⟩ := c
  exact pe_makeK M F (hr.mono hk) hg hm b C8.pass0 ha hkw hall hks hdb he hpl
end
theorem init_Wane (T : Txt K mg) : ∃ fd g, FnOk P w K mg base C8.CX0 6 (He.ma K (He.ga K "Wane") "__init__") fd ["self", "head", "tail", "cap", "lift", "anew"] (spWInit K) ∧ KBn K fd ["self", "head", "tail", "cap", "lift", "anew"] 3 ["cap", "lift", "anew"] g (fun vs zs => vs ++ zs) := by
  obtain ⟨fd, F⟩ := T.f_Wane___init__
  obtain ⟨mv, b⟩ := F.kbinds0 (ps := ["self", "head", "tail", "cap", "lift", "anew"]) 3 ["cap", "lift", "anew"] [] (fun us _ ws => us ++ ws) (by simp [He.DefD.kws, d_Wane___init__]) (by simp) (fun r1 r2 r3 => ND.paired_app r1 r3) (fun D doc pm an cdv ct us mv ws l1 l2 l3 => by
    match us, ws, l1, l3 with
    | [_, _, _], [_, _, _], _, _ => rfl)
  exact ⟨fd, _, fn_Wane_init T F, b⟩
def spMade (K : PySem.W.Frag) : Sp := fun vs H Q _ => ∃ v w, vs = [v] ∧ PlanV H v w ∧ okW w ∧ ∀ a H', Same H H' → WaneAt K H' a w → (∀ D, H D ≠ none → WaneN K D H' a w) → Q (.ref a) H'
theorem cal__law_made (T : Txt K mg) : C8.Cal P w K mg base 8 "_law_made" (spMade K) [] := by
  refine calD T.f__law_made T.g__law_made sc__law_made (fun fd F => F.bindsN fun _ _ _ _ _ _ us hl => match us, hl with | [_], _ => rfl) (fun vs H Q E h => by obtain ⟨_, _, rfl, _⟩ := h; rfl) fun cdv A outer s H vs Q E hr h => ?_
  refine ⟨_, (pss_one (ps_ret (pe_mkK T.mk_Wane (init_Wane T) hr (by decide) rfl T.g_Wane (pa_cons (pe_callTy call_list_of (by rfl) T.b_list (by decide +kernel) (pa_cons (pe_ix ix_tup (pv 0) pe_int (fun _ _ => rfl)) pa_nil)) (pa_cons (pe_callTy call_list_of (by rfl) T.b_list (by decide +kernel) (pa_cons (pe_ix ix_tup (pv 0) pe_int (fun _ _ => rfl)) pa_nil)) pa_nil)) (pk_cons (pe_ix ix_tup (pv 0) pe_int (fun _ _ => rfl)) (pk_cons (pe_ix ix_tup (pv 0) pe_int (fun _ _ => rfl)) (pk_cons (pe_ix ix_tup (pv 0) pe_int (fun _ _ => rfl)) pk_nil)))))), ?_⟩
  obtain ⟨v, w, rfl, ⟨p, ah, at_, rfl, hp, ⟨vh, hh, ph⟩, ⟨vt, ht, pt⟩⟩, ok, q⟩ := h
  refine ⟨_, rfl, p, _, _, _, rfl, rfl, SqT.of hp, rfl, ah, vh, rfl, .inl (SqL.of hh), fun l nl => ?_⟩
  have s1 := same_new nl (o := .lst vh)
  refine ⟨_, rfl, p, _, _, _, rfl, rfl, SqT.of (s1 _ _ hp), rfl, at_, vt, rfl, .inl (SqL.of (s1 _ _ ht)), fun l2 nl2 => ?_⟩
  have s2 := s1.trans (same_new nl2 (o := .lst vt))
  have hp2 := s2 _ _ hp
  refine ⟨_, rfl, p, _, _, _, rfl, rfl, SqT.of hp2, rfl, _, rfl, p, _, _, _, rfl, rfl, SqT.of hp2, rfl, _, rfl, p, _, _, _, rfl, rfl, SqT.of hp2, rfl, rfl, rfl, fun x dx nx nd ne => ?_⟩
  refine ⟨_, x, dx, l, l2, w, rfl, rfl, nx, nd, ne, ⟨vh, ?_, ?_⟩, ⟨vt, ?_, ?_⟩, ok, fun H' s3 hw hn => ⟨rfl, q x H' (s2.trans s3) hw fun D hD => hn D (by cases hh : H D with | none => exact absurd hh hD | some o => intro e; rw [s2 _ _ hh] at e; cases e)⟩⟩
  · exact same_new nl2 _ _ upd_same
  · exact Paired.mapP ph fun _ _ => StepV.mono s2
  · exact upd_same
  · exact Paired.mapP pt fun _ _ => StepV.mono s2
/-- phases by the law's own reckoning -/
theorem at_app {w : WN} (tp : 1 ≤ w.tail.length) (n : Nat) : (w.head ++ w.tail)[w.phase n]? = some (w.at n) := by
  unfold WN.phase WN.at
  have m := Nat.mod_lt (n - w.head.length) tp
  split
  · rename_i c
    by_cases h : n < w.head.length
    · rw [if_pos h, List.getElem?_append_left h, List.getD_eq_getElem?_getD, List.getElem?_eq_getElem h]; rfl
    · rw [if_neg h, List.getElem?_append_right (by omega), Nat.mod_eq_of_lt (by omega), List.getD_eq_getElem?_getD, List.getElem?_eq_getElem (by omega)]; rfl
  · rename_i c
    rw [if_neg (by omega), List.getElem?_append_right (by omega), Nat.add_sub_cancel_left, List.getD_eq_getElem?_getD, List.getElem?_eq_getElem m]; rfl
end
end WH

set_option maxHeartbeats 4000000
namespace WH
open PySem PySem.Spec PyProof.Rows L2
section
variable {P : Program} {w : World} {K : PySem.W.Frag} {mg : Str → Option Value} {base : Heap}
structure okTwo (w1 : WN) (s : Int) (w2 : WN) (f : Int) : Prop where
  a : okW w1
  b : okW w2
  s1 : 1 ≤ s
  s2 : s ≤ w1.cap
  f1 : 1 ≤ f
  f2 : f ≤ w2.cap
def TwoV (H : Hp) (v : V) (w1 : WN) (s : Int) (w2 : WN) (f : Int) : Prop := ∃ p v1 v2, v = .ref p ∧ H p = some (.tup [v1, .int s, v2, .int f]) ∧ PlanV H v1 w1 ∧ PlanV H v2 w2
theorem TwoV.but {H H' : Hp} {b c : Addr} (g : Bag H b c) (s : But b H H') {v : V} {w1 w2 : WN} {x y : Int} (h : TwoV H v w1 x w2 y) : TwoV H' v w1 x w2 y := by
  obtain ⟨p, v1, v2, rfl, h, s1, s2⟩ := h
  obtain ⟨_, _, _, _, g'⟩ := id g
  exact ⟨p, v1, v2, rfl, s _ _ (fun z => by rw [z, g'.b] at h; cases h) h, s1.but g s, s2.but g s⟩
theorem TwoV.mono {H H' : Hp} (s : Same H H') {v : V} {w1 w2 : WN} {x y : Int} (h : TwoV H v w1 x w2 y) : TwoV H' v w1 x w2 y := by
  obtain ⟨p, v1, v2, rfl, h, s1, s2⟩ := h
  exact ⟨p, v1, v2, rfl, s _ _ h, s1.mono s, s2.mono s⟩
theorem tl_of {n : Nat} (h : n = 1 ∨ n = 2 ∨ n = 3 ∨ n = 4 ∨ n = 6 ∨ n = 8 ∨ n = 12 ∨ n = 24) : (n : Int) ∈ tails := by
  simp [tails]; omega
theorem okP.ok {w : WN} (h : okP w) : okW w := ⟨fun x hx => (h.h x hx).s, by have := h.hl; omega, fun x hx => (h.t x hx).s, tl_of (by have := h.tl; omega), h.c1, by have := h.c2; omega, h.l1, by have := h.l2; have := h.c2; omega⟩
theorem tupB {H H' : Hp} {b c p : Addr} {vs : List V} (g : Bag H b c) (s : But b H H') (h : H p = some (.tup vs)) : H' p = some (.tup vs) := by
  obtain ⟨_, _, _, _, g⟩ := g
  exact s _ _ (fun z => by rw [z, g.b] at h; cases h) h
theorem paired_drop {α β : Type} {F : α → β → Prop} : ∀ {xs : List α} {ys : List β} (k : Nat), Paired F xs ys → Paired F (xs.drop k) (ys.drop k)
  | _, _, 0, p => p
  | _, _, _ + 1, .nil => .nil
  | _, _, k + 1, .cons _ t => paired_drop k t
theorem paired_take {α β : Type} {F : α → β → Prop} : ∀ {xs : List α} {ys : List β} (k : Nat), Paired F xs ys → Paired F (xs.take k) (ys.take k)
  | _, _, 0, _ => by simp; exact .nil
  | _, _, _ + 1, .nil => .nil
  | _, _, k + 1, .cons r t => .cons r (paired_take k t)
theorem paired_rep {α β : Type} {F : α → β → Prop} {xs : List α} {ys : List β} (p : Paired F xs ys) : ∀ k : Nat, Paired F (List.replicate k xs).flatten (List.replicate k ys).flatten
  | 0 => .nil
  | k + 1 => by
    rw [List.replicate_succ, List.replicate_succ, List.flatten_cons, List.flatten_cons]
    exact ND.paired_app p (paired_rep p k)
theorem cut_take {xs : List V} {k : Nat} (h : k ≤ xs.length) : cutV xs none (some (k : Int)) = xs.take k := by
  unfold cutV
  rw [HT.sIx_nat, HT.sIx_none, Nat.sub_zero, List.drop_zero, Nat.min_eq_left h]
theorem cut_drop {xs : List V} {k : Nat} (h : k ≤ xs.length) : cutV xs (some (k : Int)) none = xs.drop k := by
  unfold cutV
  rw [HT.sIx_nat, HT.sIx_none, Nat.min_eq_left h, List.take_of_length_le (by rw [List.length_drop]; omega)]
theorem paired_put {F : V → (Int × Int) → Prop} {vt : List V} {ys : List (Int × Int)} {k : Nat} {v : V} {y : Int × Int} (p : Paired F vt ys) (r : F v y) (hk : k < vt.length) :
    Paired F (cutV vt none (some (k : Int)) ++ [v] ++ cutV vt (some ((k : Int) + 1)) none) (ys.take k ++ [y] ++ ys.drop (k + 1)) := by
  rw [cut_take (by omega), show ((k : Int) + 1) = ((k + 1 : Nat) : Int) from rfl, cut_drop (by omega)]
  exact ND.paired_app (ND.paired_app (paired_take k p) (.cons r .nil)) (paired_drop (k + 1) p)
/-- the last step: the tuple of two -/
theorem two_ret {H0 H : Hp} {b c : Addr} {v1 v2 : V} {w1 w2 : WN} {s f : Int} {Q : VK} (q : ∀ v w1 s w2 f H', But b H0 H' → Bag H' b c → TwoV H' v w1 s w2 f → okTwo w1 s w2 f → Q v H') (S : But b H0 H) (g : Bag H b c) (h1 : PlanV H v1 w1) (h2 : PlanV H v2 w2) (ok : okTwo w1 s w2 f) :
    4 ≤ sizeLine ∧ ∀ r, H r = none → Q (.ref r) (upd H r (.tup [v1, .int s, v2, .int f])) :=
  ⟨by decide, fun r nr => q _ w1 s w2 f _ (S.same (same_new nr)) (g.same (same_new nr)) ⟨r, v1, v2, rfl, upd_same, h1.mono (same_new nr), h2.mono (same_new nr)⟩ ok⟩
/-- .. the lift of the other not great -/
theorem two_retL {H0 H : Hp} {b c : Addr} {v1 v2 : V} {w1 w2 : WN} {s f : Int} {Q : VK} (hl : w2.lift ≤ 100000) (q : ∀ v w1 s w2 f H', But b H0 H' → Bag H' b c → TwoV H' v w1 s w2 f → okTwo w1 s w2 f → w2.lift ≤ 100000 → Q v H') (S : But b H0 H) (g : Bag H b c) (h1 : PlanV H v1 w1) (h2 : PlanV H v2 w2) (ok : okTwo w1 s w2 f) :
    4 ≤ sizeLine ∧ ∀ r, H r = none → Q (.ref r) (upd H r (.tup [v1, .int s, v2, .int f])) :=
  ⟨by decide, fun r nr => q _ w1 s w2 f _ (S.same (same_new nr)) (g.same (same_new nr)) ⟨r, v1, v2, rfl, upd_same, h1.mono (same_new nr), h2.mono (same_new nr)⟩ ok hl⟩
def spTwo : Sp := fun vs H Q _ => ∃ b c n, vs = [.ref b, .int n] ∧ 1 ≤ n ∧ n ≤ 100 ∧ Bag H b c ∧ ∀ v w1 s w2 f H', But b H H' → Bag H' b c → TwoV H' v w1 s w2 f → okTwo w1 s w2 f → w2.lift ≤ 100000 → Q v H'
theorem cal__law_two (T : Txt K mg) : C8.Cal P w K mg base 4 "_law_two" spTwo [] := by
  refine calD T.f__law_two T.g__law_two sc__law_two (fun fd F => F.bindsN fun _ _ _ _ _ _ us hl => match us, hl with | [_, _], _ => rfl) (fun vs H Q E h => by obtain ⟨_, _, _, rfl, _⟩ := h; rfl) fun cdv A outer s H vs Q E hr h => ?_
  refine ⟨_, (pss_cons (ps_set (i := 2) sc__law_two.nd rfl (by first | exact Or.inl rfl | exact Or.inr rfl) (C8.pe_c (cal__law_plan T) hr (by decide) rfl (pa_cons (pv 0) (pa_cons (pv 1) pa_nil)))) (pss_cons (ps_set (i := 3) sc__law_two.nd rfl (by first | exact Or.inl rfl | exact Or.inr rfl) (pe_op op_add pe_int (C8.pe_c (cal__law_take T) hr (by decide) rfl (pa_cons (pv 0) (pa_cons (pe_ix ix_tup (pv 2) pe_int (fun _ _ => rfl)) pa_nil))))) (pss_cons (ps_asg (pv 2) (pg_tup rfl (pgs_cons (pg_name (i := 4) sc__law_two.nd rfl (by first | exact Or.inl rfl | exact Or.inr rfl)) (pgs_cons (pg_name (i := 5) sc__law_two.nd rfl (by first | exact Or.inl rfl | exact Or.inr rfl)) (pgs_cons (pg_name (i := 6) sc__law_two.nd rfl (by first | exact Or.inl rfl | exact Or.inr rfl)) (pgs_cons (pg_name (i := 7) sc__law_two.nd rfl (by first | exact Or.inl rfl | exact Or.inr rfl)) (pgs_cons (pg_name (i := 8) sc__law_two.nd rfl (by first | exact Or.inl rfl | exact Or.inr rfl)) pgs_nil))))))) (pss_cons (ps_set (i := 9) sc__law_two.nd rfl (by first | exact Or.inl rfl | exact Or.inr rfl) (C8.pe_c (cal__law_take T) hr (by decide) rfl (pa_cons (pv 0) (pa_cons pe_int pa_nil)))) (pss_cons (ps_if (pt_cmpR op_eq (pv 9) pe_int (nomark _)) (pss_one (ps_ret (pe_tup (pa_cons (pv 2) (pa_cons (pv 3) (pa_cons (pe_tup (pa_cons (pv 4) (pa_cons (pe_op op_rep (pv 5) pe_int) (pa_cons (pv 6) (pa_cons (pv 7) (pa_cons (pv 8) pa_nil)))))) (pa_cons (pv 3) pa_nil))))))) pss_nil) (pss_cons (ps_if (pt_cmpR op_eq (pv 9) pe_int (nomark _)) (pss_one (ps_ret (pe_tup (pa_cons (pv 2) (pa_cons (pv 3) (pa_cons (pe_tup (pa_cons (pe_op op_cat (pv 4) (pv 5)) (pa_cons (pv 5) (pa_cons (pv 6) (pa_cons (pv 7) (pa_cons (pv 8) pa_nil)))))) (pa_cons (pv 3) pa_nil))))))) pss_nil) (pss_cons (ps_if (pt_cmpR op_eq (pv 9) pe_int (nomark _)) (pss_cons (ps_set (i := 2) sc__law_two.nd rfl (by first | exact Or.inl rfl | exact Or.inr rfl) (pe_tup (pa_cons (pv 4) (pa_cons (pe_op op_rep (pv 5) pe_int) (pa_cons (pv 6) (pa_cons (pv 7) (pa_cons (pv 8) pa_nil))))))) (pss_one (ps_ret (pe_tup (pa_cons (pv 2) (pa_cons (pv 3) (pa_cons (pe_tup (pa_cons (pe_op op_cat (pv 4) (pe_op op_rep (pv 5) pe_int)) (pa_cons (pe_op op_rep (pv 5) pe_int) (pa_cons (pv 6) (pa_cons (pv 7) (pa_cons (pv 8) pa_nil)))))) (pa_cons (pv 3) pa_nil)))))))) pss_nil) (pss_cons (ps_if (pt_cmpR op_eq (pv 9) pe_int (nomark _)) (pss_one (ps_ret (pe_tup (pa_cons (pv 2) (pa_cons (pv 3) (pa_cons (pe_tup (pa_cons (pv 4) (pa_cons (pv 5) (pa_cons (pe_op op_add (pe_op op_add (pv 6) pe_int) (C8.pe_c (cal__law_take T) hr (by decide) rfl (pa_cons (pv 0) (pa_cons pe_int pa_nil)))) (pa_cons (pv 7) (pa_cons (pv 8) pa_nil)))))) (pa_cons (pv 3) pa_nil))))))) pss_nil) (pss_cons (ps_if (pt_cmpR op_eq (pv 9) pe_int (nomark _)) (pss_one (ps_ret (pe_tup (pa_cons (pv 2) (pa_cons (pv 3) (pa_cons (pv 2) (pa_cons (pe_op op_add pe_int (C8.pe_c (cal__law_take T) hr (by decide) rfl (pa_cons (pv 0) (pa_cons (pv 6) pa_nil)))) pa_nil))))))) pss_nil) (pss_cons (ps_if (pt_cmpR op_eq (pv 9) pe_int (nomark _)) (pss_one (ps_ret (pe_tup (pa_cons (pv 2) (pa_cons (pv 3) (pa_cons (pe_tup (pa_cons (pv 4) (pa_cons (pv 5) (pa_cons (pv 6) (pa_cons (pe_op op_add (pv 7) pe_int) (pa_cons (pe_not (pv 8)) pa_nil)))))) (pa_cons (pv 3) pa_nil))))))) pss_nil) (pss_cons (ps_if (pt_cmpR op_eq (pv 9) pe_int (nomark _)) (pss_cons (ps_set (i := 10) sc__law_two.nd rfl (by first | exact Or.inl rfl | exact Or.inr rfl) (C8.pe_c (cal__law_take T) hr (by decide) rfl (pa_cons (pv 0) (pa_cons (pe_callB call_len (by rfl) T.b_len (by decide +kernel) (pa_cons (pv 5) pa_nil)) pa_nil)))) (pss_cons (ps_set (i := 11) sc__law_two.nd rfl (by first | exact Or.inl rfl | exact Or.inr rfl) (pe_op op_cat (pe_op op_cat (pe_slice sl_list (pv 5) po_none (po_some (pv 10))) (pe_lst (pa_cons (pe_tup (pa_cons (pe_ix ix_seq (pe_ix ix_list (pv 5) (pv 10) (fun _ _ => rfl)) pe_int (fun _ _ => rfl)) (pa_cons (pe_op op_add (pe_ix ix_seq (pe_ix ix_list (pv 5) (pv 10) (fun _ _ => rfl)) pe_int (fun _ _ => rfl)) pe_int) pa_nil))) pa_nil))) (pe_slice sl_list (pv 5) (po_some (pe_op op_add (pv 10) pe_int)) po_none))) (pss_one (ps_ret (pe_tup (pa_cons (pv 2) (pa_cons (pv 3) (pa_cons (pe_tup (pa_cons (pv 4) (pa_cons (pv 11) (pa_cons (pv 6) (pa_cons (pv 7) (pa_cons (pv 8) pa_nil)))))) (pa_cons (pv 3) pa_nil))))))))) pss_nil) (pss_cons (ps_set (i := 12) sc__law_two.nd rfl (by first | exact Or.inl rfl | exact Or.inr rfl) (C8.pe_c (cal__law_plan T) hr (by decide) rfl (pa_cons (pv 0) (pa_cons (pv 1) pa_nil)))) (pss_one (ps_ret (pe_tup (pa_cons (pv 2) (pa_cons (pv 3) (pa_cons (pv 12) (pa_cons (pe_op op_add pe_int (C8.pe_c (cal__law_take T) hr (by decide) rfl (pa_cons (pv 0) (pa_cons (pe_ix ix_tup (pv 12) pe_int (fun _ _ => rfl)) pa_nil)))) pa_nil))))))))))))))))))), ?_⟩
  obtain ⟨b, c, n, rfl, n1, n2, g, q⟩ := h
  refine ⟨_, rfl, _, rfl, b, c, n, rfl, n1, by omega, g, fun v w1 H1 s1 g1 hv ok => ?_⟩
  obtain ⟨p, ah, at_, rfl, hp, sh, st⟩ := id hv
  refine ⟨_, rfl, _, rfl, p, _, _, _, rfl, rfl, SqT.of hp, rfl, b, c, _, rfl, g1, ok.c1, by have := ok.c2; omega, fun v1 H2 a1 a2 s2 g2 => ⟨_, _, rfl, rfl, ?_⟩⟩
  have hp2 := tupB g1 s2 hp
  have sh2 := sh.but g1 s2
  have st2 := st.but g1 s2
  refine ⟨_, rfl, p, _, rfl, SqT.of hp2, rfl, _, _, rfl, _, _, rfl, _, _, rfl, _, _, rfl, _, _, rfl, rfl, ?_⟩
  refine ⟨_, rfl, b, c, 9, rfl, g2, by decide, by decide, fun v2 H3 r1 r2 s3 g3 => ?_⟩
  have hp := tupB g2 s3 hp2
  have sh := sh2.but g2 s3
  have st := st2.but g2 s3
  have S := (s1.trans s2).trans s3
  have P1 : PlanV H3 (.ref p) w1 := ⟨p, ah, at_, rfl, hp, sh, st⟩
  have hst : 1 ≤ 1 + v1 ∧ 1 + v1 ≤ w1.cap := by omega
  clear hp2 sh2 st2 s1 s2 s3 g1 g2
  obtain ⟨vh, hh, ph⟩ := id sh
  obtain ⟨vt, ht, pt⟩ := id st
  have lh := paired_len ph
  have lt := paired_len pt
  have o1 := ok.hl
  have o2 := ok.tl
  have ok1 := ok.ok
  have oc1 := ok.c1
  have oc2 := ok.c2
  have ol1 := ok.l1
  have ol2 := ok.l2
  refine ⟨_, rfl, rfl, _, rfl, ite2 (fun _ => ?_) fun _ => ?_⟩
  · -- tail * 2
    refine ⟨_, rfl, _, rfl, _, rfl, _, rfl, at_, 2, vt, rfl, rfl, ht, by decide, by decide, Nat.le_of_lt (small1000 (by show vt.length * 2 ≤ 1000; omega)), fun l nl => ?_⟩
    refine ⟨_, rfl, _, rfl, _, rfl, by show 5 ≤ sizeLine; decide, fun p2 np2 => ⟨_, rfl, ?_⟩⟩
    have Z := (same_new nl (o := .lst (List.replicate (2 : Int).toNat vt).flatten)).trans (same_new np2 (o := .tup [.ref ah, .ref l, .int w1.cap, .int w1.lift, .bl w1.anew]))
    refine two_retL (by first | omega | (dsimp only; omega)) q (S.same Z) (g3.same Z) (P1.mono Z) (w2 := ⟨w1.head, (List.replicate 2 w1.tail).flatten, w1.cap, w1.lift, w1.anew⟩) ⟨p2, ah, l, rfl, upd_same, sh.mono Z, ⟨_, same_new np2 _ _ upd_same, Paired.mapP (paired_rep pt 2) fun _ _ => StepV.mono Z⟩⟩ ⟨ok1, ⟨ok1.h, ok1.hl, ?_, tl_of ?_, ok1.c1, ok1.c2, ok1.l1, ok1.l2⟩, hst.1, hst.2, hst.1, hst.2⟩
    · intro x hx
      simp at hx
      exact ok1.t x hx
    · simp; omega
  refine ⟨_, rfl, rfl, _, rfl, ite2 (fun _ => ?_) fun _ => ?_⟩
  · -- head + tail
    refine ⟨_, rfl, _, rfl, _, rfl, _, rfl, ah, at_, vh, vt, rfl, rfl, hh, ht, Nat.le_of_lt (small1000 (by omega)), fun l nl => ?_⟩
    refine ⟨_, rfl, _, rfl, _, rfl, _, rfl, by show 5 ≤ sizeLine; decide, fun p2 np2 => ⟨_, rfl, ?_⟩⟩
    have Z := (same_new nl (o := .lst (vh ++ vt))).trans (same_new np2 (o := .tup [.ref l, .ref at_, .int w1.cap, .int w1.lift, .bl w1.anew]))
    refine two_retL (by first | omega | (dsimp only; omega)) q (S.same Z) (g3.same Z) (P1.mono Z) (w2 := ⟨w1.head ++ w1.tail, w1.tail, w1.cap, w1.lift, w1.anew⟩) ⟨p2, l, at_, rfl, upd_same, ⟨_, same_new np2 _ _ upd_same, Paired.mapP (ND.paired_app ph pt) fun _ _ => StepV.mono Z⟩, st.mono Z⟩ ⟨ok1, ⟨?_, ?_, ok1.t, ok1.tl, ok1.c1, ok1.c2, ok1.l1, ok1.l2⟩, hst.1, hst.2, hst.1, hst.2⟩
    · intro x hx
      rcases List.mem_append.mp hx with hx | hx
      · exact ok1.h x hx
      · exact ok1.t x hx
    · show (w1.head ++ w1.tail).length ≤ 24
      rw [List.length_append]; omega
  refine ⟨_, rfl, rfl, _, rfl, ite2 (fun _ => ?_) fun _ => ?_⟩
  · -- tail * 4; head + tail * 2, tail * 2
    refine ⟨_, rfl, _, rfl, at_, 4, vt, rfl, rfl, ht, by decide, by decide, Nat.le_of_lt (small1000 (by show vt.length * 4 ≤ 1000; omega)), fun l nl => ?_⟩
    refine ⟨_, rfl, _, rfl, _, rfl, by show 5 ≤ sizeLine; decide, fun p2 np2 => ?_⟩
    have Z := (same_new nl (o := .lst (List.replicate (4 : Int).toNat vt).flatten)).trans (same_new np2 (o := .tup [.ref ah, .ref l, .int w1.cap, .int w1.lift, .bl w1.anew]))
    have P2 : PlanV (upd (upd H3 l (.lst (List.replicate (4 : Int).toNat vt).flatten)) p2 (.tup [.ref ah, .ref l, .int w1.cap, .int w1.lift, .bl w1.anew])) (.ref p2) ⟨w1.head, (List.replicate 4 w1.tail).flatten, w1.cap, w1.lift, w1.anew⟩ :=
      ⟨p2, ah, l, rfl, upd_same, sh.mono Z, ⟨_, same_new np2 _ _ upd_same, Paired.mapP (paired_rep pt 4) fun _ _ => StepV.mono Z⟩⟩
    have S := S.same Z
    have g4 := g3.same Z
    have ht := Z _ _ ht
    have hh := Z _ _ hh
    have pt := Paired.mapP pt fun _ _ => StepV.mono Z
    have ph := Paired.mapP ph fun _ _ => StepV.mono Z
    refine ⟨_, rfl, _, rfl, _, rfl, _, rfl, at_, 2, vt, rfl, rfl, ht, by decide, by decide, Nat.le_of_lt (small1000 (by show vt.length * 2 ≤ 1000; omega)), fun l1 nl1 => ?_⟩
    have Z1 := same_new nl1 (o := .lst (List.replicate (2 : Int).toNat vt).flatten)
    refine ⟨ah, l1, vh, _, rfl, rfl, Z1 _ _ hh, upd_same, Nat.le_of_lt (small1000 (by simp; omega)), fun l2 nl2 => ?_⟩
    have Z2 := Z1.trans (same_new nl2 (o := .lst (vh ++ (List.replicate (2 : Int).toNat vt).flatten)))
    refine ⟨_, rfl, at_, 2, vt, rfl, rfl, Z2 _ _ ht, by decide, by decide, Nat.le_of_lt (small1000 (by show vt.length * 2 ≤ 1000; omega)), fun l3 nl3 => ?_⟩
    have Z3 := Z2.trans (same_new nl3 (o := .lst (List.replicate (2 : Int).toNat vt).flatten))
    refine ⟨_, rfl, _, rfl, _, rfl, by show 5 ≤ sizeLine; decide, fun p3 np3 => ⟨_, rfl, ?_⟩⟩
    have Z4 := Z3.trans (same_new np3 (o := .tup [.ref l2, .ref l3, .int w1.cap, .int w1.lift, .bl w1.anew]))
    refine two_retL (by first | omega | (dsimp only; omega)) q (S.same Z4) (g4.same Z4) (P2.mono Z4) (w2 := ⟨w1.head ++ (List.replicate 2 w1.tail).flatten, (List.replicate 2 w1.tail).flatten, w1.cap, w1.lift, w1.anew⟩)
      ⟨p3, l2, l3, rfl, upd_same, ⟨_, same_new np3 _ _ (same_new nl3 _ _ upd_same), Paired.mapP (ND.paired_app ph (paired_rep pt 2)) fun _ _ => StepV.mono Z4⟩, ⟨_, same_new np3 _ _ upd_same, Paired.mapP (paired_rep pt 2) fun _ _ => StepV.mono Z4⟩⟩
      ⟨⟨ok1.h, ok1.hl, ?_, tl_of ?_, ok1.c1, ok1.c2, ok1.l1, ok1.l2⟩, ⟨?_, ?_, ?_, tl_of ?_, ok1.c1, ok1.c2, ok1.l1, ok1.l2⟩, hst.1, hst.2, hst.1, hst.2⟩
    · intro x hx
      simp at hx
      exact ok1.t x hx
    · simp; omega
    · intro x hx
      rcases List.mem_append.mp hx with hx | hx
      · exact ok1.h x hx
      · simp at hx; exact ok1.t x hx
    · simp; omega
    · intro x hx
      simp at hx
      exact ok1.t x hx
    · simp; omega
  refine ⟨_, rfl, rfl, _, rfl, ite2 (fun _ => ?_) fun _ => ?_⟩
  · -- a greater cap
    refine ⟨_, rfl, _, rfl, _, rfl, _, rfl, _, rfl, _, _, rfl, rfl, _, rfl, b, c, 2, rfl, g3, by decide, by decide, fun v4 H4 d1 d2 s4 g4 => ⟨_, _, rfl, rfl, ?_⟩⟩
    refine ⟨_, rfl, _, rfl, by show 5 ≤ sizeLine; decide, fun p2 np2 => ⟨_, rfl, ?_⟩⟩
    have Z := same_new np2 (o := .tup [.ref ah, .ref at_, .int (w1.cap + 1 + v4), .int w1.lift, .bl w1.anew])
    refine two_retL (by first | omega | (dsimp only; omega)) q ((S.trans s4).same Z) (g4.same Z) ((P1.but g3 s4).mono Z) (w2 := ⟨w1.head, w1.tail, w1.cap + 1 + v4, w1.lift, w1.anew⟩) ⟨p2, ah, at_, rfl, upd_same, (sh.but g3 s4).mono Z, (st.but g3 s4).mono Z⟩ ⟨ok1, ⟨ok1.h, ok1.hl, ok1.t, ok1.tl, ?_, ?_, ok1.l1, ok1.l2⟩, hst.1, hst.2, hst.1, ?_⟩
    · show 1 ≤ w1.cap + 1 + v4; omega
    · show w1.cap + 1 + v4 ≤ 1000000000; omega
    · show 1 + v1 ≤ w1.cap + 1 + v4; omega
  refine ⟨_, rfl, rfl, _, rfl, ite2 (fun _ => ?_) fun _ => ?_⟩
  · -- another strength
    refine ⟨_, rfl, _, rfl, _, rfl, _, rfl, _, rfl, b, c, _, rfl, g3, ok.c1, by omega, fun v4 H4 d1 d2 s4 g4 => ⟨_, _, rfl, rfl, ?_⟩⟩
    exact two_retL (by first | omega | (dsimp only; omega)) q (S.trans s4) g4 (P1.but g3 s4) (P1.but g3 s4) ⟨ok1, ok1, hst.1, hst.2, by omega, by omega⟩
  refine ⟨_, rfl, rfl, _, rfl, ite2 (fun _ => ?_) fun _ => ?_⟩
  · -- another lift, anew turned
    refine ⟨_, rfl, _, rfl, _, rfl, _, rfl, _, rfl, _, rfl, _, _, rfl, rfl, _, rfl, ?_⟩
    refine ⟨_, rfl, by show 5 ≤ sizeLine; decide, fun p2 np2 => ⟨_, rfl, ?_⟩⟩
    have Z := same_new np2 (o := .tup [.ref ah, .ref at_, .int w1.cap, .int (w1.lift + 1), .bl (!w1.anew)])
    refine two_retL (by first | omega | (dsimp only; omega)) q (S.same Z) (g3.same Z) (P1.mono Z) (w2 := ⟨w1.head, w1.tail, w1.cap, w1.lift + 1, !w1.anew⟩) ⟨p2, ah, at_, rfl, upd_same, sh.mono Z, st.mono Z⟩ ⟨ok1, ⟨ok1.h, ok1.hl, ok1.t, ok1.tl, ok1.c1, ok1.c2, ?_, ?_⟩, hst.1, hst.2, hst.1, hst.2⟩
    · show 0 ≤ w1.lift + 1; omega
    · show w1.lift + 1 ≤ 1000000000; omega
  refine ⟨_, rfl, rfl, _, rfl, ite2 (fun _ => ?_) fun _ => ?_⟩
  · -- a step put otherwise
    refine ⟨_, rfl, _, rfl, _, _, rfl, .inl ⟨_, SqL.of ht, rfl⟩, b, c, _, rfl, g3, by omega, by omega, fun v4 H4 d1 d2 s4 g4 => ?_⟩
    obtain ⟨k, rfl⟩ := Int.eq_ofNat_of_zero_le d1
    have hk : k < vt.length := by omega
    have ht := (show H4 at_ = some (.lst vt) from s4 _ _ (g3.ne ht pt) ht)
    have sh := sh.but g3 s4
    have pt := Paired.mapP pt fun _ _ => StepV.but g3 s4
    have P1 := P1.but g3 s4
    have S := S.trans s4
    obtain ⟨x, hx, b0, e0, hb0⟩ := paired_get pt (List.getElem?_eq_getElem hk)
    have hx0 : vt[k]? = some (.ref b0) := by rw [List.getElem?_eq_getElem hk, e0]
    have okx := ok.t x (List.mem_of_getElem? hx)
    refine ⟨_, rfl, _, rfl, _, rfl, at_, vt, rfl, SqL.of ht, fun la na => ?_⟩
    have Z1 := same_new na (o := .lst (cutV vt none (some (k : Int))))
    refine ⟨_, rfl, _, rfl, at_, vt, _, _, rfl, rfl, SqL.of (Z1 _ _ ht), atI_nat hx0, .inr (.inl ⟨b0, _, 0, _, rfl, rfl, SqT.of (Z1 _ _ hb0), rfl, ?_⟩)⟩
    refine ⟨_, rfl, _, rfl, at_, vt, _, _, rfl, rfl, SqL.of (Z1 _ _ ht), atI_nat hx0, .inr (.inl ⟨b0, _, 1, _, rfl, rfl, SqT.of (Z1 _ _ hb0), rfl, ?_⟩)⟩
    refine ⟨_, _, rfl, rfl, by show 2 ≤ sizeLine; decide, fun t nt => ⟨by show 1 ≤ sizeLine; decide, fun lb nb => ?_⟩⟩
    have Z2 := (Z1.trans (same_new nt (o := .tup [.int x.1, .int (x.2 + 1)]))).trans (same_new nb (o := .lst [.ref t]))
    refine ⟨la, lb, _, _, rfl, rfl, same_new nb _ _ (same_new nt _ _ upd_same), upd_same, Nat.le_of_lt (small1000 (by have := cutV_length vt none (some (k : Int)); show _ + 1 ≤ 1000; omega)), fun lc nc => ?_⟩
    have Z3 := Z2.trans (same_new nc (o := .lst (cutV vt none (some (k : Int)) ++ [.ref t])))
    refine ⟨_, rfl, _, rfl, _, _, rfl, rfl, _, rfl, at_, vt, rfl, SqL.of (Z3 _ _ ht), fun ld nd => ?_⟩
    have Z4 := Z3.trans (same_new nd (o := .lst (cutV vt (some ((k : Int) + 1)) none)))
    refine ⟨lc, ld, _, _, rfl, rfl, same_new nd _ _ upd_same, upd_same, Nat.le_of_lt (small1000 (by have := cutV_length vt none (some (k : Int)); have := cutV_length vt (some ((k : Int) + 1)) none; rw [List.length_append, List.length_singleton]; omega)), fun le ne => ?_⟩
    have Z5 := Z4.trans (same_new ne (o := .lst (cutV vt none (some (k : Int)) ++ [.ref t] ++ cutV vt (some ((k : Int) + 1)) none)))
    refine ⟨_, rfl, _, rfl, _, rfl, _, rfl, _, rfl, _, rfl, _, rfl, by show 5 ≤ sizeLine; decide, fun p2 np2 => ⟨_, rfl, ?_⟩⟩
    have Z := Z5.trans (same_new np2 (o := .tup [.ref ah, .ref le, .int w1.cap, .int w1.lift, .bl w1.anew]))
    refine two_retL (by first | omega | (dsimp only; omega)) q (S.same Z) (g4.same Z) (P1.mono Z) (w2 := ⟨w1.head, w1.tail.take k ++ [(x.1, x.2 + 1)] ++ w1.tail.drop (k + 1), w1.cap, w1.lift, w1.anew⟩)
      ⟨p2, ah, le, rfl, upd_same, sh.mono Z, ⟨_, same_new np2 _ _ upd_same, ?_⟩⟩ ⟨ok1, ⟨ok1.h, ok1.hl, ?_, tl_of ?_, ok1.c1, ok1.c2, ok1.l1, ok1.l2⟩, hst.1, hst.2, hst.1, hst.2⟩
    · exact paired_put (Paired.mapP pt fun _ _ => StepV.mono Z) ⟨t, rfl, same_new np2 _ _ (same_new ne _ _ (same_new nd _ _ (same_new nc _ _ (same_new nb _ _ upd_same))))⟩ hk
    · intro y hy
      rcases List.mem_append.mp hy with hy | hy
      · rcases List.mem_append.mp hy with hy | hy
        · exact ok1.t y (List.mem_of_mem_take hy)
        · rw [List.mem_singleton.mp hy]
          exact ⟨okx.1, okx.2.1, by have := okx.2.2.1; show 0 ≤ x.2 + 1; omega, by have := okx.2.2.2; show x.2 + 1 ≤ 1000000000; omega⟩
      · exact ok1.t y (List.mem_of_mem_drop hy)
    · show (w1.tail.take k ++ [(x.1, x.2 + 1)] ++ w1.tail.drop (k + 1)).length = 1 ∨ _
      rw [List.length_append, List.length_append, List.length_take, List.length_drop, List.length_singleton]; omega
  · -- drawn alone
    refine ⟨_, rfl, _, rfl, b, c, n, rfl, n1, by omega, g3, fun v w2 H4 s4 g4 hv oko => ?_⟩
    obtain ⟨p2, ah2, at2, rfl, hp2, sh2, st2⟩ := id hv
    have oc3 := oko.c1
    have oc4 := oko.c2
    refine ⟨_, rfl, _, rfl, _, rfl, _, rfl, _, rfl, p2, _, _, _, rfl, rfl, SqT.of hp2, rfl, b, c, _, rfl, g4, oc3, by omega, fun v5 H5 d1 d2 s5 g5 => ⟨_, _, rfl, rfl, ?_⟩⟩
    exact two_retL (by have := oko.l2; omega) q ((S.trans s4).trans s5) g5 ((P1.but g3 s4).but g4 s5) (hv.but g4 s5) ⟨ok1, oko.ok, hst.1, hst.2, by omega, by omega⟩
end
end WH

set_option maxHeartbeats 4000000
namespace WH
open PySem PySem.Spec PyProof.Rows L2
section
variable {P : Program} {w : World} {K : PySem.W.Frag} {mg : Str → Option Value} {base : Heap}
theorem pick2 {a b v : Int} (h0 : 0 ≤ v) (h1 : v < 2) : ∃ y, (y = a ∨ y = b) ∧ atI [V.int a, V.int b] v = some (.int y) := by
  obtain rfl | rfl : v = 0 ∨ v = 1 := by omega
  · exact ⟨a, by simp, rfl⟩
  · exact ⟨b, by simp, rfl⟩
theorem pick3 {a b c v : Int} (h0 : 0 ≤ v) (h1 : v < 3) : ∃ y, (y = a ∨ y = b ∨ y = c) ∧ atI [V.int a, V.int b, V.int c] v = some (.int y) := by
  obtain rfl | rfl | rfl : v = 0 ∨ v = 1 ∨ v = 2 := by omega
  · exact ⟨a, by simp, rfl⟩
  · exact ⟨b, by simp, rfl⟩
  · exact ⟨c, by simp, rfl⟩
theorem paired_set {α β : Type} {F : α → β → Prop} {v : α} {y : β} (r : F v y) : ∀ {xs : List α} {ys : List β} (k : Nat), Paired F xs ys → Paired F (xs.set k v) (ys.set k y)
  | _, _, _, .nil => .nil
  | _, _, 0, .cons _ t => .cons r t
  | _, _, k + 1, .cons q t => .cons q (paired_set r k t)
theorem StepV.updL {H : Hp} {l : Addr} {xs : List V} {o : HO} {v : V} {x : Int × Int} (hl : H l = some (.lst xs)) (h : StepV H v x) : StepV (L2.upd H l o) v x := by
  obtain ⟨a, rfl, h⟩ := h
  exact ⟨a, rfl, by rw [upd_ne (fun z => by rw [z, hl] at h; cases h)]; exact h⟩
/-- a pair of step lists -/
abbrev HT2 := List (Int × Int) × List (Int × Int)
def HTV (H : Hp) (v : V) (x : HT2) : Prop := ∃ p ah at_, v = .ref p ∧ H p = some (.tup [.ref ah, .ref at_]) ∧ Steps H ah x.1 ∧ Steps H at_ x.2
structure okHT (x : HT2) : Prop where
  h : ∀ y ∈ x.1, okS y
  hl : x.1.length ≤ 24
  t : ∀ y ∈ x.2, okS y
  tl : (x.2.length : Int) ∈ tails
theorem HTV.but {H H' : Hp} {b c : Addr} (g : Bag H b c) (s : But b H H') {v : V} {x : HT2} (h : HTV H v x) : HTV H' v x := by
  obtain ⟨p, ah, at_, rfl, h, s1, s2⟩ := h
  exact ⟨p, ah, at_, rfl, tupB g s h, s1.but g s, s2.but g s⟩
theorem HTV.mono {H H' : Hp} (s : Same H H') {v : V} {x : HT2} (h : HTV H v x) : HTV H' v x := by
  obtain ⟨p, ah, at_, rfl, h, s1, s2⟩ := h
  exact ⟨p, ah, at_, rfl, s _ _ h, s1.mono s, s2.mono s⟩
theorem HTV.ne {H : Hp} {l a : Addr} {vs : List V} {ps : List HT2} {xs : List (Int × Int)} (hl : H l = some (.lst vs)) (hp : Paired (HTV H) vs ps) (h0 : ps ≠ []) (h : Steps H a xs) : a ≠ l := fun z => by
  obtain ⟨vs', h, p⟩ := h
  rw [z, hl] at h
  cases h
  cases hp with
  | nil => exact h0 rfl
  | cons r _ =>
    obtain ⟨q, _, _, rfl, e, _⟩ := r
    cases p with
    | cons r' _ =>
      obtain ⟨q', e2, e'⟩ := r'
      cases e2
      rw [e] at e'; cases e'
theorem Steps.updL {H : Hp} {l a : Addr} {vs : List V} {o : HO} {xs : List (Int × Int)} (hl : H l = some (.lst vs)) (n : a ≠ l) (h : Steps H a xs) : Steps (L2.upd H l o) a xs := by
  obtain ⟨us, h, p⟩ := h
  exact ⟨us, by rw [upd_ne n]; exact h, Paired.mapP p fun _ _ => StepV.updL hl⟩
theorem HTV.updL {H : Hp} {l : Addr} {vs : List V} {ps : List HT2} {o : HO} {v : V} {x : HT2} (hl : H l = some (.lst vs)) (hp : Paired (HTV H) vs ps) (h0 : ps ≠ []) (h : HTV H v x) : HTV (L2.upd H l o) v x := by
  obtain ⟨p, ah, at_, rfl, h, s1, s2⟩ := h
  exact ⟨p, ah, at_, rfl, by rw [upd_ne (fun z => by rw [z, hl] at h; cases h)]; exact h, s1.updL hl (HTV.ne hl hp h0 s1), s2.updL hl (HTV.ne hl hp h0 s2)⟩
def spLong : Sp := fun vs H Q _ => ∃ b c, vs = [.ref b] ∧ Bag H b c ∧ ∀ v w1 s w2 f H', But b H H' → Bag H' b c → TwoV H' v w1 s w2 f → okTwo w1 s w2 f → Q v H'
def MidT (H : Hp) (b c : Addr) (σ : L2.St) (H' : Hp) : Prop := ∃ t xs, σ = [some (.ref b), some (.ref t), none, none, none, none] ∧ But b H H' ∧ Bag H' b c ∧ H t = none ∧ Steps H' t xs ∧ (∀ x ∈ xs, okS x) ∧ (xs.length = 8 ∨ xs.length = 12 ∨ xs.length = 24)
def MidH (H : Hp) (b c : Addr) (σ : L2.St) (H' : Hp) : Prop := ∃ t xs h hs, σ = [some (.ref b), some (.ref t), some (.ref h), none, none, none] ∧ But b H H' ∧ Bag H' b c ∧ Steps H' t xs ∧ (∀ x ∈ xs, okS x) ∧ (xs.length = 8 ∨ xs.length = 12 ∨ xs.length = 24) ∧ Steps H' h hs ∧ (∀ x ∈ hs, okS x) ∧ hs.length ≤ 24
def MidS (m : Nat) (H : Hp) (b c : Addr) (σ : L2.St) (H' : Hp) : Prop := ∃ t xs h hs l vs ps, σ = [some (.ref b), some (.ref t), some (.ref h), some (.ref l), none, none] ∧ But b H H' ∧ Bag H' b c ∧ Steps H' t xs ∧ (∀ x ∈ xs, okS x) ∧ (xs.length = 8 ∨ xs.length = 12 ∨ xs.length = 24) ∧ Steps H' h hs ∧ (∀ x ∈ hs, okS x) ∧ hs.length ≤ 24 ∧
  H l = none ∧ H' l = some (.lst vs) ∧ Paired (HTV H') vs ps ∧ (∀ p ∈ ps, okHT p) ∧ ps ≠ [] ∧ ps.length ≤ m
theorem MidS.add {m : Nat} {H H1 H2 : Hp} {b c t h l p : Addr} {xs hs : List (Int × Int)} {vs : List V} {ps : List HT2} {x : HT2} (g0 : Bag H b c) (S : But b H H1) (g : Bag H1 b c) (st : Steps H1 t xs) (okt : ∀ x ∈ xs, okS x) (lt : xs.length = 8 ∨ xs.length = 12 ∨ xs.length = 24) (sh : Steps H1 h hs) (okh : ∀ x ∈ hs, okS x) (lh : hs.length ≤ 24)
    (nl : H l = none) (hl : H1 l = some (.lst vs)) (hp : Paired (HTV H1) vs ps) (okp : ∀ p ∈ ps, okHT p) (h0 : ps ≠ []) (l9 : ps.length < m) (Z : Same H1 H2) (hx : HTV H2 (.ref p) x) (okx : okHT x) :
    MidS m H b c [some (.ref b), some (.ref t), some (.ref h), some (.ref l), none, none] (upd H2 l (.lst (vs ++ [.ref p]))) := by
  have hl2 := Z _ _ hl
  have hp2 := Paired.mapP hp fun _ _ => HTV.mono Z
  have lb : l ≠ b := g0.nb nl
  have lc : l ≠ c := fun z => by obtain ⟨_, _, _, _, g⟩ := g0; rw [z, g.c] at nl; cases nl
  refine ⟨t, xs, h, hs, l, _, ps ++ [x], rfl, (S.same Z).mut nl, (g.same Z).put lb lc, (st.mono Z).updL hl2 (HTV.ne hl2 hp2 h0 (st.mono Z)), okt, lt, (sh.mono Z).updL hl2 (HTV.ne hl2 hp2 h0 (sh.mono Z)), okh, lh, nl, upd_same,
    paired_snoc (Paired.mapP hp2 fun _ _ => HTV.updL hl2 hp2 h0) (HTV.updL hl2 hp2 h0 hx), ?_, by simp, by simp; omega⟩
  intro p hp
  rcases List.mem_append.mp hp with hp | hp
  · exact okp p hp
  · rw [List.mem_singleton.mp hp]; exact okx
theorem cal__law_long (T : Txt K mg) : C8.Cal P w K mg base 2 "_law_long" spLong [] := by
  refine calD T.f__law_long T.g__law_long sc__law_long (fun fd F => F.bindsN fun _ _ _ _ _ _ us hl => match us, hl with | [_], _ => rfl) (fun vs H Q E h => by obtain ⟨_, _, rfl, _⟩ := h; rfl) fun cdv A outer s H vs Q E hr h => ?_
  refine ⟨_, (C8.pss_cut (ps_set (i := 1) sc__law_long.nd rfl (by first | exact Or.inl rfl | exact Or.inr rfl) (pe_op op_rep (pe_lst (pa_cons (pe_tup (pa_cons pe_int (pa_cons pe_int pa_nil))) pa_nil)) (pe_ix ix_list (pe_lst (pa_cons pe_int (pa_cons pe_int (pa_cons pe_int pa_nil)))) (C8.pe_c (cal__law_take T) hr (by decide) rfl (pa_cons (pv 0) (pa_cons pe_int pa_nil))) (fun _ _ => rfl)))) (C8.pss_cut (ps_asg (pe_tup (pa_cons (pe_op op_add pe_int (C8.pe_c (cal__law_take T) hr (by decide) rfl (pa_cons (pv 0) (pa_cons pe_int pa_nil)))) (pa_cons (C8.pe_c (cal__law_take T) hr (by decide) rfl (pa_cons (pv 0) (pa_cons pe_int pa_nil))) pa_nil))) (pg_sub (pv 1) (C8.pe_c (cal__law_take T) hr (by decide) rfl (pa_cons (pv 0) (pa_cons (pe_callB call_len (by rfl) T.b_len (by decide +kernel) (pa_cons (pv 1) pa_nil)) pa_nil))) set_list)) (C8.pss_cut (ps_set (i := 2) sc__law_long.nd rfl (by first | exact Or.inl rfl | exact Or.inr rfl) (pe_op op_rep (pe_lst (pa_cons (pe_tup (pa_cons pe_int (pa_cons pe_int pa_nil))) pa_nil)) (pe_ix ix_list (pe_lst (pa_cons pe_int (pa_cons (C8.pe_c (cal__law_take T) hr (by decide) rfl (pa_cons (pv 0) (pa_cons pe_int pa_nil))) pa_nil))) (C8.pe_c (cal__law_take T) hr (by decide) rfl (pa_cons (pv 0) (pa_cons pe_int pa_nil))) (fun _ _ => rfl)))) (C8.pss_cut (ps_set (i := 3) sc__law_long.nd rfl (by first | exact Or.inl rfl | exact Or.inr rfl) (pe_lst (pa_cons (pe_tup (pa_cons (pv 2) (pa_cons (pv 1) pa_nil))) (pa_cons (pe_tup (pa_cons (pv 2) (pa_cons (pe_op op_cat (pe_slice sl_list (pv 1) (po_some pe_int) po_none) (pe_slice sl_list (pv 1) po_none (po_some pe_int))) pa_nil))) pa_nil)))) (C8.pss_cut (ps_if (pt_cmpR op_eq (pe_callB call_len (by rfl) T.b_len (by decide +kernel) (pa_cons (pv 1) pa_nil)) pe_int (nomark _)) (pss_one (ps_expr (pe_bm PySem.F.plainAttrs_list PySem.F.slot_list_append PySem.F.type_list_append mt_append (pv 3) (pa_cons (pe_tup (pa_cons (pv 2) (pa_cons (pe_op op_rep (pv 1) pe_int) pa_nil))) pa_nil)))) pss_nil) (C8.pss_cut (ps_if (pt_cmpR op_lt (pe_callB call_len (by rfl) T.b_len (by decide +kernel) (pa_cons (pe_op op_cat (pv 2) (pv 1)) pa_nil)) pe_int (nomark _)) (pss_one (ps_expr (pe_bm PySem.F.plainAttrs_list PySem.F.slot_list_append PySem.F.type_list_append mt_append (pv 3) (pa_cons (pe_tup (pa_cons (pe_op op_cat (pv 2) (pv 1)) (pa_cons (pv 1) pa_nil))) pa_nil)))) pss_nil) (pss_cons (ps_set (i := 4) sc__law_long.nd rfl (by first | exact Or.inl rfl | exact Or.inr rfl) (pe_op op_add pe_int (C8.pe_c (cal__law_take T) hr (by decide) rfl (pa_cons (pv 0) (pa_cons pe_int pa_nil))))) (C8.pss_cut (ps_set (i := 5) sc__law_long.nd rfl (by first | exact Or.inl rfl | exact Or.inr rfl) (pe_tup (pa_cons (pv 4) (pa_cons (C8.pe_c (cal__law_take T) hr (by decide) rfl (pa_cons (pv 0) (pa_cons (pe_op op_add (pv 4) pe_int) pa_nil))) (pa_cons (pe_cmpR op_eq (C8.pe_c (cal__law_take T) hr (by decide) rfl (pa_cons (pv 0) (pa_cons pe_int pa_nil))) pe_int (nomark _)) pa_nil))))) (pss_one (ps_ret (pe_tup (pa_cons (pe_op op_catT (pe_ix ix_list (pv 3) pe_int (fun _ _ => rfl)) (pv 5)) (pa_cons (pe_op op_add pe_int (C8.pe_c (cal__law_take T) hr (by decide) rfl (pa_cons (pv 0) (pa_cons (pv 4) pa_nil)))) (pa_cons (pe_op op_catT (pe_ix ix_list (pv 3) (C8.pe_c (cal__law_take T) hr (by decide) rfl (pa_cons (pv 0) (pa_cons (pe_callB call_len (by rfl) T.b_len (by decide +kernel) (pa_cons (pv 3) pa_nil)) pa_nil))) (fun _ _ => rfl)) (pv 5)) (pa_cons (pe_op op_add pe_int (C8.pe_c (cal__law_take T) hr (by decide) rfl (pa_cons (pv 0) (pa_cons (pv 4) pa_nil)))) pa_nil))))))))))))))), ?_⟩
  obtain ⟨b, c, rfl, g, q⟩ := h
  have one : okS (1, 0) := ⟨by decide, by decide, by decide, by decide⟩
  have rep : ∀ {H' : Hp} {t l : Addr} {k : Nat}, H' t = some (.tup [.int 1, .int 0]) → H' l = some (.lst (List.replicate k [V.ref t]).flatten) → Steps H' l (List.replicate k [((1 : Int), (0 : Int))]).flatten := fun h1 h2 => ⟨_, h2, paired_rep (.cons ⟨_, rfl, h1⟩ .nil) _⟩
  have repl : ∀ {k : Nat}, (List.replicate k [((1 : Int), (0 : Int))]).flatten.length = k := by simp
  have repo : ∀ {k : Nat}, ∀ x ∈ (List.replicate k [((1 : Int), (0 : Int))]).flatten, okS x := by
    intro k x hx
    simp at hx
    rw [hx.2]; exact one
  refine ⟨MidT H b c, ?_, ?_⟩
  · -- the tail
    refine ⟨by show 2 ≤ sizeLine; decide, fun t nt => ⟨by show 1 ≤ sizeLine; decide, fun l0 n0 => ⟨by show 3 ≤ sizeLine; decide, fun l1 n1 => ?_⟩⟩⟩
    have Z := ((same_new nt (o := .tup [.int 1, .int 0])).trans (same_new n0 (o := .lst [.ref t]))).trans (same_new n1 (o := .lst [.int 8, .int 12, .int 24]))
    have e1 := same_new n1 (o := .lst [.int 8, .int 12, .int 24]) _ _ (same_new n0 (o := .lst [.ref t]) _ _ (upd_same (H := H) (a := t) (o := .tup [.int 1, .int 0])))
    have e2 := same_new n1 (o := .lst [.int 8, .int 12, .int 24]) _ _ (upd_same (H := upd H t (.tup [.int 1, .int 0])) (a := l0) (o := .lst [.ref t]))
    have e3 := upd_same (H := upd (upd H t (.tup [.int 1, .int 0])) l0 (.lst [.ref t])) (a := l1) (o := .lst [.int 8, .int 12, .int 24])
    have g1 := g.same Z
    refine ⟨_, rfl, b, c, 3, rfl, g1, by decide, by decide, fun v1 H2 r1 r2 s2 g2 => ?_⟩
    obtain ⟨y, hy, ey⟩ := pick3 (a := 8) (b := 12) (c := 24) r1 r2
    refine ⟨l1, _, _, _, rfl, rfl, SqL.of (s2 _ _ (fun z => by rw [z] at n1; exact (g.same ((same_new nt).trans (same_new n0))).nb n1 rfl) e3), ey, ?_⟩
    have e1 := tupB g1 s2 e1
    have e2 := s2 _ _ (fun z => by rw [z] at n0; exact (g.same (same_new nt)).nb n0 rfl) e2
    refine ⟨l0, y, _, rfl, rfl, e2, by omega, by omega, Nat.le_of_lt (small1000 (by show 1 * y.toNat ≤ 1000; omega)), fun l nl => ?_⟩
    have S := (But.of Z).trans s2
    have nl0 : H l = none := by
      cases e : H l with
      | none => rfl
      | some o => 
        by_cases z : l = b
        · exact absurd z (g2.nb nl)
        · rw [S _ _ z e] at nl; cases nl
    refine ⟨l, _, rfl, S.same (same_new nl), g2.same (same_new nl), nl0, rep (same_new nl _ _ e1) upd_same, repo, ?_⟩
    rw [repl]; omega
  rintro σ H1 ⟨t, xs, rfl, S1, g1, nt, st, okt, lt⟩
  refine ⟨MidT H b c, ?_, ?_⟩
  · -- one step of it
    refine ⟨_, rfl, b, c, 2, rfl, g1, by decide, by decide, fun v1 H2 a1 a2 s2 g2 => ⟨_, _, rfl, rfl, ?_⟩⟩
    refine ⟨_, rfl, b, c, 2, rfl, g2, by decide, by decide, fun v2 H3 b1 b2 s3 g3 => ⟨by show 2 ≤ sizeLine; decide, fun p np => ?_⟩⟩
    have st3 := ((st.but g1 s2).but g2 s3).mono (same_new np (o := .tup [.int (1 + v1), .int v2]))
    obtain ⟨vt, ht, pt⟩ := id st3
    have lv := paired_len pt
    have g4 := g3.same (same_new np (o := .tup [.int (1 + v1), .int v2]))
    have S4 := ((S1.trans s2).trans s3).same (same_new np (o := .tup [.int (1 + v1), .int v2]))
    refine ⟨_, rfl, _, rfl, _, rfl, _, _, rfl, .inl ⟨_, SqL.of ht, rfl⟩, b, c, _, rfl, g4, by omega, by omega, fun v4 H5 c1 c2 s5 g5 => ?_⟩
    obtain ⟨k, rfl⟩ := Int.eq_ofNat_of_zero_le c1
    have ht5 := s5 _ _ (g4.ne ht pt) ht
    have hp5 := tupB g4 s5 (upd_same (H := H3) (a := p) (o := .tup [.int (1 + v1), .int v2]))
    have tb : t ≠ b := g.nb nt
    have tc : t ≠ c := fun z => by obtain ⟨_, _, _, _, g⟩ := g; rw [z, g.c] at nt; cases nt
    refine ⟨t, vt, k, k, rfl, rfl, ht5, ?_, t, xs.set k (1 + v1, v2), rfl, (S4.trans s5).mut nt, g5.put tb tc, nt, ⟨_, upd_same, paired_set (StepV.updL ht5 ⟨p, rfl, hp5⟩) k (Paired.mapP pt fun _ _ h => StepV.updL ht5 (StepV.but g4 s5 h))⟩, ?_, by rw [List.length_set]; exact lt⟩
    · unfold ixN
      rw [if_pos (by omega), if_pos (by omega)]; simp
    · intro x hx
      rcases List.mem_or_eq_of_mem_set hx with hx | hx
      · exact okt x hx
      · rw [hx]
        exact ⟨by show 1 ≤ 1 + v1; omega, by show 1 + v1 ≤ 9; omega, b1, by show v2 ≤ 1000000000; omega⟩
  rintro σ H1 ⟨t, xs, rfl, S1, g1, nt, st, okt, lt⟩
  refine ⟨MidH H b c, ?_, ?_⟩
  · -- the head
    refine ⟨by show 2 ≤ sizeLine; decide, fun t1 nt1 => ⟨by show 1 ≤ sizeLine; decide, fun l0 n0 => ?_⟩⟩
    have Z := (same_new nt1 (o := .tup [.int 1, .int 0])).trans (same_new n0 (o := .lst [.ref t1]))
    have e1 := same_new n0 (o := .lst [.ref t1]) _ _ (upd_same (H := H1) (a := t1) (o := .tup [.int 1, .int 0]))
    have e2 := (upd_same (H := upd H1 t1 (.tup [.int 1, .int 0])) (a := l0) (o := .lst [.ref t1]))
    have g2 := g1.same Z
    refine ⟨_, rfl, b, c, 25, rfl, g2, by decide, by decide, fun v1 H2 a1 a2 s2 g3 => ⟨by show 2 ≤ sizeLine; decide, fun l1 n1 => ?_⟩⟩
    refine ⟨_, rfl, b, c, 2, rfl, g3.same (same_new n1), by decide, by decide, fun v2 H3 r1 r2 s3 g4 => ?_⟩
    obtain ⟨y, hy, ey⟩ := pick2 (a := 0) (b := v1) r1 r2
    have l1b : l1 ≠ b := g3.nb n1
    have l0b : l0 ≠ b := (g1.same (same_new nt1)).nb n0
    refine ⟨l1, _, _, _, rfl, rfl, SqL.of (s3 _ _ l1b upd_same), ey, ?_⟩
    have s23 := (s2.same (same_new n1 (o := .lst [.int 0, .int v1]))).trans s3
    have e1 := tupB g2 s23 e1
    have e2 := s23 _ _ l0b e2
    refine ⟨l0, y, _, rfl, rfl, e2, by omega, by omega, Nat.le_of_lt (small1000 (by show 1 * y.toNat ≤ 1000; omega)), fun l nl => ?_⟩
    refine ⟨t, xs, l, _, rfl, ((S1.same Z).trans s23).same (same_new nl), g4.same (same_new nl), ((st.mono Z).but g2 s23).mono (same_new nl), okt, lt, rep (same_new nl _ _ e1) upd_same, repo, ?_⟩
    rw [repl]; omega
  rintro σ H1 ⟨t, xs, h, hs, rfl, S1, g1, st, okt, lt, sh, okh, lh⟩
  obtain ⟨vt, ht, pt⟩ := id st
  have lv := paired_len pt
  have tlx : (xs.length : Int) ∈ tails := tl_of (by omega)
  refine ⟨MidS 2 H b c, ?_, ?_⟩
  · -- some
    refine ⟨_, rfl, _, rfl, by show 2 ≤ sizeLine; decide, fun p1 np1 => ?_⟩
    have Z1 := same_new np1 (o := .tup [.ref h, .ref t])
    refine ⟨_, rfl, _, rfl, _, rfl, t, vt, rfl, SqL.of (Z1 _ _ ht), fun la na => ?_⟩
    have Z2 := Z1.trans (same_new na (o := .lst (cutV vt (some 1) none)))
    refine ⟨_, rfl, _, rfl, t, vt, rfl, SqL.of (Z2 _ _ ht), fun lb nb => ?_⟩
    have Z3 := Z2.trans (same_new nb (o := .lst (cutV vt none (some 1))))
    refine ⟨la, lb, _, _, rfl, rfl, same_new nb _ _ upd_same, upd_same, Nat.le_of_lt (small1000 (by have := cutV_length vt none (some 1); have := cutV_length vt (some 1) none; omega)), fun lc nc => ?_⟩
    have Z4 := Z3.trans (same_new nc (o := .lst (cutV vt (some 1) none ++ cutV vt none (some 1))))
    refine ⟨by show 2 ≤ sizeLine; decide, fun p2 np2 => ⟨by show 2 ≤ sizeLine; decide, fun l nl => ?_⟩⟩
    have Z5 := Z4.trans (same_new np2 (o := .tup [.ref h, .ref lc]))
    have Z6 := Z5.trans (same_new nl (o := .lst [.ref p1, .ref p2]))
    have S := S1.same Z6
    have hc := same_new nl (o := .lst [.ref p1, .ref p2]) _ _ (same_new np2 (o := .tup [.ref h, .ref lc]) _ _ (upd_same (a := lc) (H := upd (upd (upd H1 p1 (.tup [.ref h, .ref t])) la (.lst (cutV vt (some 1) none))) lb (.lst (cutV vt none (some 1)))) (o := .lst (cutV vt (some 1) none ++ cutV vt none (some 1)))))
    have h1 := same_new nl (o := .lst [.ref p1, .ref p2]) _ _ (same_new np2 (o := .tup [.ref h, .ref lc]) _ _ (same_new nc (o := .lst (cutV vt (some 1) none ++ cutV vt none (some 1))) _ _ (same_new nb (o := .lst (cutV vt none (some 1))) _ _ (same_new na (o := .lst (cutV vt (some 1) none)) _ _ (upd_same (a := p1) (H := H1) (o := .tup [.ref h, .ref t]))))))
    have h2 := same_new nl (o := .lst [.ref p1, .ref p2]) _ _ (upd_same (a := p2) (H := upd (upd (upd (upd H1 p1 (.tup [.ref h, .ref t])) la (.lst (cutV vt (some 1) none))) lb (.lst (cutV vt none (some 1)))) lc (.lst (cutV vt (some 1) none ++ cutV vt none (some 1)))) (o := .tup [.ref h, .ref lc]))
    have h3 := upd_same (a := l) (H := upd (upd (upd (upd (upd H1 p1 (.tup [.ref h, .ref t])) la (.lst (cutV vt (some 1) none))) lb (.lst (cutV vt none (some 1)))) lc (.lst (cutV vt (some 1) none ++ cutV vt none (some 1)))) p2 (.tup [.ref h, .ref lc])) (o := .lst [.ref p1, .ref p2])
    have nl0 : H l = none := by
      cases e : H l with
      | none => rfl
      | some o =>
        have lb : l ≠ b := (g1.same Z5).nb nl
        rw [(S1.same Z5) _ _ lb e] at nl; cases nl
    have g2 := g1.same Z6
    have st := st.mono Z6
    have sh := sh.mono Z6
    have ptz := Paired.mapP pt fun _ _ => StepV.mono Z6
    show MidS 2 H b c _ (upd (upd (upd (upd (upd (upd H1 p1 (.tup [.ref h, .ref t])) la (.lst (cutV vt (some 1) none))) lb (.lst (cutV vt none (some 1)))) lc (.lst (cutV vt (some 1) none ++ cutV vt none (some 1)))) p2 (.tup [.ref h, .ref lc])) l (.lst [.ref p1, .ref p2]))
    generalize upd (upd (upd (upd (upd (upd H1 p1 (.tup [.ref h, .ref t])) la (.lst (cutV vt (some 1) none))) lb (.lst (cutV vt none (some 1)))) lc (.lst (cutV vt (some 1) none ++ cutV vt none (some 1)))) p2 (.tup [.ref h, .ref lc])) l (.lst [.ref p1, .ref p2]) = H2 at S g2 st sh ptz hc h1 h2 h3 ⊢
    rw [show (some (1 : Int)) = some ((1 : Nat) : Int) from rfl, cut_drop (by omega), cut_take (by omega)] at hc
    refine ⟨t, xs, h, hs, l, _, [(hs, xs), (hs, xs.drop 1 ++ xs.take 1)], rfl, S, g2, st, okt, lt, sh, okh, lh, nl0, h3, .cons ⟨p1, h, t, rfl, h1, sh, st⟩ (.cons ⟨p2, h, lc, rfl, h2, sh, ⟨_, hc, ND.paired_app (paired_drop 1 ptz) (paired_take 1 ptz)⟩⟩ .nil), ?_, by simp, Nat.le_refl 2⟩
    intro p hp
    rcases List.mem_cons.mp hp with hp | hp
    · rw [hp]; exact ⟨okh, lh, okt, tlx⟩
    · rw [List.mem_singleton.mp hp]
      refine ⟨okh, lh, fun y hy => ?_, ?_⟩
      · rcases List.mem_append.mp hy with hy | hy
        · exact okt y (List.mem_of_mem_drop hy)
        · exact okt y (List.mem_of_mem_take hy)
      · have : (xs.drop 1 ++ xs.take 1).length = xs.length := by rw [List.length_append, List.length_drop, List.length_take]; omega
        show ((xs.drop 1 ++ xs.take 1).length : Int) ∈ tails
        rw [this]; exact tlx
  clear ht pt lv vt
  rintro σ H1 ⟨t, xs, h, hs, l, vs, ps, rfl, S1, g1, st, okt, lt, sh, okh, lh, nl, hl, hp, okp, h0, l9⟩
  refine ⟨MidS 3 H b c, ?_, ?_⟩
  · -- the tail twice
    obtain ⟨vt, ht, pt⟩ := id st
    have lv := paired_len pt
    refine ⟨_, rfl, _, _, rfl, .inl ⟨_, SqL.of ht, rfl⟩, rfl, _, rfl, ite2 (fun z => ?_) fun _ => ?_⟩
    · have z : (vt.length : Int) = 12 := by simpa using z
      refine ⟨_, rfl, .inl ⟨rfl, _, SqL.of hl⟩, _, rfl, _, rfl, t, 2, vt, rfl, rfl, ht, by decide, by decide, Nat.le_of_lt (small1000 (by show vt.length * 2 ≤ 1000; omega)), fun la na => ?_⟩
      refine ⟨by show 2 ≤ sizeLine; decide, fun p np => ?_⟩
      have Z := (same_new na (o := .lst (List.replicate (2 : Int).toNat vt).flatten)).trans (same_new np (o := .tup [.ref h, .ref la]))
      have lvp := paired_len hp
      refine ⟨l, vs, _, rfl, rfl, Z _ _ hl, small1000 (by omega), ?_⟩
      refine MidS.add g S1 g1 st okt lt sh okh lh nl hl hp okp h0 (Nat.lt_succ_of_le l9) Z (x := (hs, (List.replicate 2 xs).flatten)) ⟨p, h, la, rfl, upd_same, sh.mono Z, ⟨_, same_new np _ _ upd_same, Paired.mapP (paired_rep pt 2) fun _ _ => StepV.mono Z⟩⟩ ⟨okh, lh, ?_, tl_of ?_⟩
      · intro x hx
        simp at hx
        exact okt x hx
      · simp; omega
    · exact ⟨t, xs, h, hs, l, vs, ps, rfl, S1, g1, st, okt, lt, sh, okh, lh, nl, hl, hp, okp, h0, Nat.le_succ_of_le l9⟩
  clear S1 g1 st okt lt sh okh lh nl hl hp okp h0 l9
  rintro σ H1 ⟨t, xs, h, hs, l, vs, ps, rfl, S1, g1, st, okt, lt, sh, okh, lh, nl, hl, hp, okp, h0, l9⟩
  refine ⟨MidS 4 H b c, ?_, ?_⟩
  · -- the tail as a head
    have tlx : (xs.length : Int) ∈ tails := tl_of (by omega)
    obtain ⟨vt, ht, pt⟩ := id st
    obtain ⟨vh, hh, ph⟩ := id sh
    have lv := paired_len pt
    have lvh := paired_len ph
    refine ⟨_, rfl, _, rfl, h, t, vh, vt, rfl, rfl, hh, ht, Nat.le_of_lt (small1000 (by omega)), fun la na => ?_⟩
    have Z1 := same_new na (o := .lst (vh ++ vt))
    refine ⟨_, _, rfl, .inl ⟨_, SqL.of upd_same, rfl⟩, _, _, rfl, rfl, _, rfl, ite2 (fun z => ?_) fun _ => ?_⟩
    · have z : ((vh ++ vt).length : Int) < 25 := by simpa using z
      rw [List.length_append] at z
      refine ⟨_, rfl, .inl ⟨rfl, _, SqL.of (Z1 _ _ hl)⟩, _, rfl, _, rfl, h, t, vh, vt, rfl, rfl, Z1 _ _ hh, Z1 _ _ ht, Nat.le_of_lt (small1000 (by omega)), fun lb nb => ?_⟩
      have Z2 := Z1.trans (same_new nb (o := .lst (vh ++ vt)))
      refine ⟨_, rfl, by show 2 ≤ sizeLine; decide, fun p np => ?_⟩
      have Z := Z2.trans (same_new np (o := .tup [.ref lb, .ref t]))
      have lvp := paired_len hp
      refine ⟨l, vs, _, rfl, rfl, Z _ _ hl, small1000 (by omega), ?_⟩
      refine MidS.add g S1 g1 st okt lt sh okh lh nl hl hp okp h0 (Nat.lt_succ_of_le l9) Z (x := (hs ++ xs, xs)) ⟨p, lb, t, rfl, upd_same, ⟨_, same_new np _ _ upd_same, Paired.mapP (ND.paired_app ph pt) fun _ _ => StepV.mono Z⟩, st.mono Z⟩ ⟨?_, ?_, okt, tlx⟩
      · intro x hx
        rcases List.mem_append.mp hx with hx | hx
        · exact okh x hx
        · exact okt x hx
      · show (hs ++ xs).length ≤ 24
        rw [List.length_append]; omega
    · exact ⟨t, xs, h, hs, l, vs, ps, rfl, S1.same Z1, g1.same Z1, st.mono Z1, okt, lt, sh.mono Z1, okh, lh, nl, Z1 _ _ hl, Paired.mapP hp fun _ _ => HTV.mono Z1, okp, h0, Nat.le_succ_of_le l9⟩
  clear S1 g1 st okt lt sh okh lh nl hl hp okp h0 l9
  rintro σ H1 ⟨t, xs, h, hs, l, vs, ps, rfl, S1, g1, st, okt, lt, sh, okh, lh, nl, hl, hp, okp, h0, l9⟩
  have lb : l ≠ b := g.nb nl
  have lvp := paired_len hp
  refine ⟨_, rfl, b, c, 3, rfl, g1, by decide, by decide, fun v1 H2 a1 a2 s2 g2 => ⟨_, _, rfl, rfl, ?_⟩⟩
  refine ⟨fun σ H5 => ∃ pr v2 v3, 0 ≤ v2 ∧ v2 ≤ 1000 ∧ σ = [some (.ref b), some (.ref t), some (.ref h), some (.ref l), some (.int (1 + v1)), some (.ref pr)] ∧ But b H1 H5 ∧ Bag H5 b c ∧ H5 pr = some (.tup [.int (1 + v1), .int v2, .bl (decide (V.int v3 = V.int 0))]), ?_, ?_⟩
  · refine ⟨_, rfl, _, rfl, _, rfl, _, _, rfl, rfl, b, c, _, rfl, g2, by omega, by omega, fun v2 H3 b1 b2 s3 g3 => ?_⟩
    refine ⟨_, rfl, b, c, 2, rfl, g3, by decide, by decide, fun v3 H4 c1 c2 s4 g4 => ⟨rfl, by show 3 ≤ sizeLine; decide, fun pr nr => ?_⟩⟩
    exact ⟨pr, v2, v3, b1, by omega, rfl, ((s2.trans s3).trans s4).same (same_new nr), g4.same (same_new nr), upd_same⟩
  rintro σ H5 ⟨pr, v2, v3, b1, b2, rfl, S5, g5, hr⟩
  have hl5 := S5 _ _ lb hl
  have hp5 := Paired.mapP hp fun _ _ => HTV.but g1 S5
  have S1 := S1.trans S5
  -- one of some, with the rest
  have one_of : ∀ {H6 : Hp} {k : Nat} {v : V}, But b H5 H6 → vs[k]? = some v → ∃ q0 ah at_ x, v = .ref q0 ∧ H6 q0 = some (.tup [.ref ah, .ref at_]) ∧ Steps H6 ah x.1 ∧ Steps H6 at_ x.2 ∧ okHT x := by
    intro H6 k v s hk
    obtain ⟨x, hx, q0, ah, at_, e, e1, e2, e3⟩ := paired_get hp5 hk
    exact ⟨q0, ah, at_, x, e, tupB g5 s e1, e2.but g5 s, e3.but g5 s, okp x (List.mem_of_getElem? hx)⟩
  have okv : ∀ {x : HT2}, okHT x → okW ⟨x.1, x.2, 1 + v1, v2, decide (V.int v3 = V.int 0)⟩ := fun {x} o => ⟨o.h, o.hl, o.t, o.tl, by show 1 ≤ 1 + v1; omega, by show 1 + v1 ≤ 1000000000; omega, b1, by show v2 ≤ 1000000000; omega⟩
  have l0 : 0 < ps.length := List.length_pos_iff.mpr h0
  obtain ⟨q1, ah1, at1, x1, e1, h1, sh1, st1, ok1⟩ := one_of (But.refl b H5) (List.getElem?_eq_getElem (show 0 < vs.length by omega))
  have e1' : vs[0]? = some (.ref q1) := by rw [List.getElem?_eq_getElem (show 0 < vs.length by omega), e1]
  refine ⟨_, rfl, l, vs, 0, _, rfl, rfl, SqL.of hl5, atI_nat (j := 0) e1', _, rfl, q1, pr, _, _, rfl, rfl, SqT.of h1, SqT.of hr, by simp, by show 5 ≤ sizeLine; decide, fun e => (by cases e), fun _ p1 np1 => ?_⟩
  have Z6 := same_new np1 (o := .tup ([V.ref ah1, V.ref at1] ++ [V.int (1 + v1), V.int v2, .bl (decide (V.int v3 = V.int 0))]))
  have P1 : PlanV (upd H5 p1 (.tup ([V.ref ah1, V.ref at1] ++ [V.int (1 + v1), V.int v2, .bl (decide (V.int v3 = V.int 0))]))) (.ref p1) ⟨x1.1, x1.2, 1 + v1, v2, decide (V.int v3 = V.int 0)⟩ := ⟨p1, ah1, at1, rfl, upd_same, sh1.mono Z6, st1.mono Z6⟩
  refine ⟨_, rfl, _, rfl, b, c, _, rfl, g5.same Z6, by omega, by omega, fun v4 H7 d1 d2 s7 g7 => ⟨_, _, rfl, rfl, ?_⟩⟩
  have P1 := P1.but (g5.same Z6) s7
  have S7 := (But.of (b := b) Z6).trans s7
  have hl7 := S7 _ _ lb hl5
  refine ⟨_, rfl, _, rfl, _, rfl, _, _, rfl, .inl ⟨_, SqL.of hl7, rfl⟩, b, c, _, rfl, g7, by omega, by omega, fun v5 H8 i1 i2 s8 g8 => ?_⟩
  obtain ⟨k, rfl⟩ := Int.eq_ofNat_of_zero_le i1
  have S8 := S7.trans s8
  obtain ⟨q2, ah2, at2, x2, e2, h2, sh2, st2, ok2⟩ := one_of S8 (List.getElem?_eq_getElem (show k < vs.length by omega))
  have e2' : vs[k]? = some (.ref q2) := by rw [List.getElem?_eq_getElem (show k < vs.length by omega), e2]
  have hr8 := tupB g5 S8 hr
  have P1 := P1.but g7 s8
  refine ⟨l, vs, k, _, rfl, rfl, SqL.of (s8 _ _ lb hl7), atI_nat e2', _, rfl, q2, pr, _, _, rfl, rfl, SqT.of h2, SqT.of hr8, by simp, by show 5 ≤ sizeLine; decide, fun e => (by cases e), fun _ p2 np2 => ?_⟩
  have Z9 := same_new np2 (o := .tup ([V.ref ah2, V.ref at2] ++ [V.int (1 + v1), V.int v2, .bl (decide (V.int v3 = V.int 0))]))
  have P2 : PlanV (upd H8 p2 (.tup ([V.ref ah2, V.ref at2] ++ [V.int (1 + v1), V.int v2, .bl (decide (V.int v3 = V.int 0))]))) (.ref p2) ⟨x2.1, x2.2, 1 + v1, v2, decide (V.int v3 = V.int 0)⟩ := ⟨p2, ah2, at2, rfl, upd_same, sh2.mono Z9, st2.mono Z9⟩
  have g9 := g8.same Z9
  refine ⟨_, rfl, _, rfl, b, c, _, rfl, g9, by omega, by omega, fun v6 H10 j1 j2 s10 g10 => ⟨_, _, rfl, rfl, ?_⟩⟩
  exact two_ret q (((S1.trans S8).same Z9).trans s10) g10 ((P1.mono Z9).but g9 s10) (P2.but g9 s10) ⟨okv ok1, okv ok2, by omega, by show 1 + v4 ≤ 1 + v1; omega, by omega, by show 1 + v6 ≤ 1 + v1; omega⟩
end
end WH

set_option maxHeartbeats 4000000
/-! displays whose new object is told by what stands there, the heap behind it by no more -/
namespace NW
open PySem PySem.Spec PyProof.Rows L2
theorem same_fresh {H : Hp} {p : Addr} {o : HO} (h : H p = none) : Same H (upd H p o) := fun b u e => by rw [upd_ne (ne_of_none e h)]; exact e
def tTupN (t : TA) : TE := fun σ H Q => t σ H fun xs H1 => xs.length ≤ sizeLine ∧ ∀ p H2, H1 p = none → Same H1 H2 → H2 p = some (.tup xs) → Q (.ref p) H2
def tLstN (t : TA) : TE := fun σ H Q => t σ H fun xs H1 => xs.length ≤ sizeLine ∧ ∀ p H2, H1 p = none → Same H1 H2 → H2 p = some (.lst xs) → Q (.ref p) H2
section
variable {X : Cx} {es : List Expr} {t : TA} {pos : Pos}
theorem pe_tupN {x1} (h : PA X es t) : PE X (.Tuple es x1 pos) (tTupN t) := by
  refine ⟨fun pins s σ H Q I hq => ?_⟩
  refine wpAny_Tuple_spliced (thn (h.run pos pins s σ H _ I hq) fun us s1 ⟨xs, H1, I1, r, z, q⟩ => ⟨by rw [← r.length]; exact z, ?_⟩)
  have hf : H1 s1.heap.objs.size = none := I1.hok.fresh (Nat.le_refl _)
  exact ⟨.ref s1.heap.objs.size, upd H1 s1.heap.objs.size (.tup xs), I1.laid (t' := s1.toks) (fun b u e => Heap.get?_push_of_some _ e) (Nat.le_refl _) ⟨z, us, r, ⟨_, Heap.get?_push_size _ rfl, rfl, _, rfl⟩⟩, rfl, q _ _ hf (same_fresh hf) upd_same⟩
theorem pe_lstN (h : PA X es t) : PE X (.List es pos) (tLstN t) := by
  refine ⟨fun pins s σ H Q I hq => ?_⟩
  refine wpAny_List_spliced (thn (h.run pos pins s σ H _ I hq) fun us s1 ⟨xs, H1, I1, r, z, q⟩ => ⟨by rw [← r.length]; exact z, ?_⟩)
  have hf : H1 s1.heap.objs.size = none := I1.hok.fresh (Nat.le_refl _)
  exact ⟨.ref s1.heap.objs.size, upd H1 s1.heap.objs.size (.lst xs), I1.laid (t' := s1.toks) (fun b u e => Heap.get?_push_of_some _ e) (Nat.le_refl _) ⟨z, us, 0, r, Heap.get?_push_size _ rfl⟩, rfl, q _ _ hf (same_fresh hf) upd_same⟩
def rCatN : R2 := fun x y H Q => ∃ l b xs zs, x = .ref l ∧ y = .ref b ∧ H l = some (.lst xs) ∧ H b = some (.lst zs) ∧ xs.length + zs.length ≤ sizeLine ∧ ∀ p H2, H p = none → Same H H2 → H2 p = some (.lst (xs ++ zs)) → Q (.ref p) H2
theorem op_catN : OpR X (binaryOp .Add) rCatN := by
  intro pins s σ H x y v u Q I rx ry h
  obtain ⟨l, b, xs, zs, e1, e2, h1, h2, hz, q⟩ := h
  exact op_cat pins s σ H x y v u Q I rx ry ⟨l, b, xs, zs, e1, e2, h1, h2, hz, fun p np => q p _ np (same_fresh np) upd_same⟩
def rRepN : R2 := fun x y H Q => ∃ l k xs, x = .ref l ∧ y = .int k ∧ H l = some (.lst xs) ∧ -(2 ^ 63) ≤ k ∧ k < 2 ^ 63 ∧ xs.length * k.toNat ≤ sizeLine ∧ ∀ p H2, H p = none → Same H H2 → H2 p = some (.lst (List.replicate k.toNat xs).flatten) → Q (.ref p) H2
theorem op_repN : OpR X (binaryOp .Mult) rRepN := by
  intro pins s σ H x y v u Q I rx ry h
  obtain ⟨l, k, xs, e1, e2, h1, h2, h3, hz, q⟩ := h
  exact op_rep pins s σ H x y v u Q I rx ry ⟨l, k, xs, e1, e2, h1, h2, h3, hz, fun p np => q p _ np (same_fresh np) upd_same⟩
def rCatTN (K : PySem.W.Frag) : R2 := fun x y H Q => ∃ a b xs ys, x = .ref a ∧ y = .ref b ∧ SqT K H a xs ∧ SqT K H b ys ∧ xs ≠ [] ∧ xs.length + ys.length ≤ sizeLine ∧
  (ys = [] → Q (.ref a) H) ∧ (ys ≠ [] → ∀ p H2, H p = none → Same H H2 → H2 p = some (.tup (xs ++ ys)) → Q (.ref p) H2)
theorem op_catTN : OpR X (binaryOp .Add) (rCatTN X.K) := by
  intro pins s σ H x y v u Q I rx ry h
  obtain ⟨l, b, xs, zs, e1, e2, h1, h2, h3, hz, q1, q⟩ := h
  exact op_catT pins s σ H x y v u Q I rx ry ⟨l, b, xs, zs, e1, e2, h1, h2, h3, hz, q1, fun n p np => q n p _ np (same_fresh np) upd_same⟩
def rSlLN (K : PySem.W.Frag) : V → Option Int → Option Int → Hp → VK → Prop := fun x lo hi H Q => ∃ a xs, x = .ref a ∧ SqL K H a xs ∧ ∀ p H2, H p = none → Same H H2 → H2 p = some (.lst (cutV xs lo hi)) → Q (.ref p) H2
theorem sl_listN : SlR X (rSlLN X.K) := by
  intro pins s σ H x v vl vu lo hi sl Q I rx hs pl pu h
  obtain ⟨a, xs, e, hx, q⟩ := h
  exact sl_list pins s σ H x v vl vu lo hi sl Q I rx hs pl pu ⟨a, xs, e, hx, fun p np => q p _ np (same_fresh np) upd_same⟩
def rSlTN (K : PySem.W.Frag) : V → Option Int → Option Int → Hp → VK → Prop := fun x lo hi H Q => ∃ a xs, x = .ref a ∧ SqT K H a xs ∧ ¬ (HT.sIx xs.length 0 lo = 0 ∧ HT.sIx xs.length xs.length hi = xs.length) ∧ ∀ p H2, H p = none → Same H H2 → H2 p = some (.tup (cutV xs lo hi)) → Q (.ref p) H2
theorem sl_tupN : SlR X (rSlTN X.K) := by
  intro pins s σ H x v vl vu lo hi sl Q I rx hs pl pu h
  obtain ⟨a, xs, e, hx, hw, q⟩ := h
  exact sl_tup pins s σ H x v vl vu lo hi sl Q I rx hs pl pu ⟨a, xs, e, hx, hw, fun p np => q p _ np (same_fresh np) upd_same⟩
theorem call_list_ofN : CallR X (.type "list") (fun xs H Q => ∃ p ys, xs = [.ref p] ∧ (SqL X.K H p ys ∨ SqT X.K H p ys) ∧ ∀ l H2, H l = none → Same H H2 → H2 l = some (.lst ys) → Q (.ref l) H2) := by
  intro pins s σ H xs us Q I r h
  obtain ⟨p, ys, e, hq, q⟩ := h
  exact call_list_of pins s σ H xs us Q I r ⟨p, ys, e, hq, fun p np => q p _ np (same_fresh np) upd_same⟩
end
end NW

/-! rules within a comprehension's block, K told -/
namespace KX
open PySem PySem.Spec PyProof.Rows L2
variable {X : Cx} {K : PySem.W.Frag}
theorem ix_tup (h : X.K = K) : IxR X (rIxT K) := by subst h; exact L2.ix_tup
theorem ix_list (h : X.K = K) : IxR X (rIxL K) := by subst h; exact L2.ix_list
theorem ix_seq (h : X.K = K) : IxR X (rIx K) := by subst h; exact L2.ix_seq
theorem call_len (h : X.K = K) : CallR X (.builtin "len") (fun xs H Q => ∃ x n, xs = [x] ∧ LenV K x H n ∧ Q (.int n) H) := by subst h; exact L2.call_len
theorem op_in_seq (h : X.K = K) : OpR X (compareOp .In) (rIn K false) := by subst h; exact L2.op_in_seq
theorem op_notIn_seq (h : X.K = K) : OpR X (compareOp .NotIn) (rIn K true) := by subst h; exact L2.op_notIn_seq
end KX

set_option maxHeartbeats 4000000
namespace ND
open PySem PySem.Spec PyProof.Rows L2
def tNEmp (P : Program) (w : World) : TE := fun _ H Q => ∀ d H2, H d = none → Same H H2 → H2 d = some (ndO P w d []) → Q (.ref d) H2
/-- an empty dict for such keys -/
theorem pe_emp {X : Cx} {pos : Pos} : PE X (.Dict [] [] pos) (tNEmp X.prog X.w) := by
  refine ⟨fun pins s σ H Q I q => ?_⟩
  have nf := I.hok.fresh (Nat.le_refl s.heap.objs.size)
  have I1 := I.laid (a := s.heap.objs.size) (o := ndO X.prog X.w s.heap.objs.size []) (h' := s.heap.push { cls := .type "dict", data := .dict #[] }) (t' := s.toks) (fun _ _ z => Heap.get?_push_of_some _ z) (Nat.le_refl _) (ndO_ok (nd_empty s.heap I.big))
  exact wpAny_Dict_empty ⟨.ref s.heap.objs.size, _, I1, rfl, q _ _ nf (NW.same_fresh nf) upd_same⟩
end ND

set_option maxHeartbeats 4000000
/-! defs that are called where no repr is under way (no guards): what repr of data wants -/
namespace GL
open PySem PySem.Spec PyProof.Rows L2
/-- a def's promise, called where no guard is up -/
structure FnG (P : Program) (w : World) (K : PySem.W.Frag) (mg : Str → Option Value) (base : Heap) (CX : CXT) (k : Nat) (f : Addr) (fd : FuncData) (ps : List Str) (sp : Sp) : Prop where
  lens : ∀ vs H Q E, sp vs H Q E → vs.length = ps.length
  runs : ∀ (B : Around) (fr : List Env) (s : Shared) (H : Hp) (ar : Args) (us : List Value) (vs : List V) (Q : VK) (E : XK), Room k B → B.guards = some [] → Env0 P w K mg base B fr s H → BindsTo s fd ar (ps.zip us) → Vals vs us → sp vs H Q E →
    codeAny (model P w) B (.call (.ref f) ar) (CR CX fr P w H s Q E) s
section
variable {P : Program} {w : World} {K : PySem.W.Frag} {mg : Str → Option Value} {base : Heap} {CX : CXT} {k : Nat} {f : Addr} {fd : FuncData} {ps N : List Str} {sp : Sp}
theorem FnG.of (F : FnOk P w K mg base CX k f fd ps sp) : FnG P w K mg base CX k f fd ps sp := ⟨F.len, fun B fr s H ar us vs Q E hr _ => F.run B fr s H ar us vs Q E hr⟩
theorem FnG.up {j : Nat} (F : FnG P w K mg base CX j f fd ps sp) (h : j ≤ k) : FnG P w K mg base CX k f fd ps sp := ⟨F.lens, fun B fr s H ar us vs Q E hr => F.runs B fr s H ar us vs Q E (hr.mono h)⟩
/-- the rule for a def by its body, guards known -/
theorem okG {x qual : Str} {params : Arguments} {body : List Stmt} {scope : Scope} {dvs : List V} {kws : List (Str × V)} (F : FunD K x qual params body scope dvs kws f fd) (S : FnScope N ps scope) (len : ∀ vs H Q E, sp vs H Q E → vs.length = ps.length)
    (go : ∀ (cdv : Value) (A : Around) (outer : List Env) (s : Shared) (H : Hp) (vs : List V) (Q : VK) (E : XK), Room k (A.deeper (envOfC qual scope s.heap.objs.size f cdv)) → A.guards = some [] → sp vs H Q E →
      ∃ t, PSs (cxOf CX P w K mg base N qual scope f cdv A outer s H E) body t ∧ t { nx := fun _ H' => Q .non H', rt := Q } (start N vs) H) : FnG P w K mg base CX (k + 1) f fd ps sp := by
  obtain ⟨c0, c1, c2, c3, c4, c5, c6, cdv, c8, c9, rfl, look, code, _, _⟩ := F.ex
  refine ⟨len, fun B fr s H ar us vs Q E room gd env0 bnd rel want => ?_⟩
  have nv := len vs H Q E want
  have kin : K.In s.heap := env0.mod.kin.keeps fun b o e => (env0.bs b o e).1
  have nolim : s.heap.NoLimit := env0.mod.nolimit.keeps fun b o e => (env0.bs b o e).1
  have kinds : ∀ y ∈ ps.zip us, scope.names.lookup y.1 = some .local ∨ (scope.names.lookup y.1 = some .cell ∧ ((cellsFrom (s.heap.objs.size + 1) scope.names []).lookup y.1).isSome = true) := by
    rintro ⟨n, v⟩ mem
    exact (S.par n (List.of_mem_zip mem).1).imp id fun q => ⟨q, PySem.W.cellsFrom_some _ _ _ (.inl q)⟩
  refine codeAny_call_function room.depth (kin _ _ look) rfl S.co S.gen rfl (PySem.W.codeRec_of kin code) (bnd _ _ _ _ (wpAny_newFunctionEnv_cells S.kind kinds fun ev he t1 inC => ?_))
  subst he
  obtain ⟨t, der, now⟩ := go cdv B fr s H vs Q E (room.deeper _) gd want
  have inv := inv_start (CX := CX) (E := E) S room.hd env0 nv rel inC
  refine ⟨nolim.keeps inC.toInCall.keep, codeAny_func (wpAny_mono (der.run [] t1 (start N vs) H _ inv now) (fun fl z hz => ?_) fun _ _ hz => hz)⟩
  have done : ∀ {σ' : L2.St} {H' : Hp} {v : V} {u : Value}, L2.Inv (cxOf CX P w K mg base N qual scope f cdv B fr s H E) [] σ' H' z → RelV v u → Q v H' → CE fr P w H s Q u z := fun {_ H' v _} J rv q => ⟨v, H', J.os, J.bare, J.base, J.hok, rv, q⟩
  match fl, hz with
  | .ret _, ⟨_, _, _, J, rv, q⟩ => exact done J rv q
  | .next, ⟨_, _, J, q⟩ => exact done (v := V.non) (u := Value.none) J rfl q
  | .brk, ⟨_, _, _, q⟩ => exact q.elim
  | .cont, ⟨_, _, _, q⟩ => exact q.elim
/-- a def called by its name -/
structure CalG (P : Program) (w : World) (K : PySem.W.Frag) (mg : Str → Option Value) (base : Heap) (k : Nat) (x : Str) (sp : Sp) (dvs : List V) : Prop where
  exg : ∃ (f : Addr) (fd : FuncData) (ps : List Str) (ds : List Value), FnG P w K mg base C8.CX0 k f fd ps sp ∧ mg x = some (.ref f) ∧ PySem.W.keepIn K (.ref f) = true ∧ Binds K fd ps ds ∧ Vals dvs ds
end
section
variable {X : Cx} {k j : Nat} {f : Addr} {sp : Sp} {dvs : List V} {x : Str} {p pos : Pos} {e : Expr} {es : List Expr} {t : TA}
theorem pe_cG (c : CalG X.prog X.w X.K X.mg X.base k x sp dvs) (hr : Room j X.A) (hk : k ≤ j) (gd : X.A.guards = some []) (hg : Gl X x) (ha : PA X (e :: es) t)
    (hd : (x == ("__debug__" : Str)) = false := by decide) (he : starEach (e :: es) X.env = (false, eval e X.env) :: starEach es X.env := by rfl) (hp : (backTo pos (starEach es X.env)).any (·.1) = false := by rfl) :
    PE X (.Call (.Name x p) (e :: es) [] pos) (tCall sp dvs C8.E0 t) := by
  obtain ⟨f, fd, ps, ds, F, hm, kp, b, dv⟩ := c.exg
  refine ⟨fun pins s σ H Q I h => wpAny_Call_Name_kw (ld_glob I hg hm (PySem.W.callWith_K (h₀ := X.base) I.ok.mod.kin kp (thn (ha.run pos pins s σ H _ I h) fun us s1 ⟨vs, H1, I1, r, q⟩ => ⟨I1.kIn, ?_⟩) he hp) hd)⟩
  have rr : Vals (vs ++ dvs) (us ++ ds) := r.append dv
  refine wpAny_call (codeAny_mono (F.runs X.A X.stack s1 H1 ⟨us, []⟩ (us ++ ds) (vs ++ dvs) Q C8.E0 (hr.mono hk) gd I1.env0 (b s1 us I1.kIn (rr.length.symm.trans (F.lens _ _ _ _ q))) rr q) fun z s' hz => ?_)
  match z, hz with
  | .error e, hz => exact (C8.pass0 (E := C8.E0) pins σ H1 s1 e s' I1 hz)
  | .ok (.ret u), hz => exact I1.after hz
  | .ok .next, hz => exact hz.elim
  | .ok .brk, hz => exact hz.elim
  | .ok .cont, hz => exact hz.elim
theorem pe_c0G (c : CalG X.prog X.w X.K X.mg X.base k x sp dvs) (hr : Room j X.A) (hk : k ≤ j) (gd : X.A.guards = some []) (hg : Gl X x) (hd : (x == ("__debug__" : Str)) = false := by decide) : PE X (.Call (.Name x p) [] [] pos) (tCall sp dvs C8.E0 tNil) := by
  obtain ⟨f, fd, ps, ds, F, hm, kp, b, dv⟩ := c.exg
  refine ⟨fun pins s σ H Q I h => wpAny_Call_Name_kw (ld_glob I hg hm (PySem.W.callWith_K0 I.kIn kp ?_) hd)⟩
  refine wpAny_call (codeAny_mono (F.runs X.A X.stack s H ⟨[], []⟩ ds dvs Q C8.E0 (hr.mono hk) gd I.env0 (b s [] I.kIn (dv.length.symm.trans (F.lens _ _ _ _ h))) dv h) fun z s' hz => ?_)
  match z, hz with
  | .error e, hz => exact (C8.pass0 (E := C8.E0) pins σ H s e s' I hz)
  | .ok (.ret u), hz => exact I.after hz
  | .ok .next, hz => exact hz.elim
  | .ok .brk, hz => exact hz.elim
  | .ok .cont, hz => exact hz.elim
/-- repr of data -/
theorem call_reprD (gd : X.A.guards = some []) (hu : X.A.units + 64 < cLine) : CallR X (.builtin "repr") (fun xs H Q => ∃ a d, xs = [.ref a] ∧ Dp X.K H (.ref a) d ∧ d.showable = true ∧ d.hasDict = false ∧ d.depth ≤ 60 ∧ d.shown.length ≤ sizeLine ∧ Q (.str d.shown) H) := by
  intro pins s σ H xs us Q I r h
  obtain ⟨a, d, rfl, hd, h1, h2, h3, h4, q⟩ := h
  obtain ⟨u, rfl, ru⟩ := vals1 r
  obtain rfl : u = Value.ref a := ru
  obtain ⟨as, rd⟩ := Dp.reads I d _ _ hd rfl
  exact repr_of_reads' rd h1 (fun z => by rw [h2] at z; cases z) gd (by omega) (fun _ _ e => e) (fun h' v tk hk => ⟨.str _, H, I.kept hk, ⟨_, rfl⟩, q⟩) h4
end
/-! ### the end -/
section
variable {P : Program} {w : World} {K : PySem.W.Frag} {mg mb : Str → Option Value} {CX : CXT} {k : Nat} {fa a : Addr} {fd : FuncData} {x : Str} {sp : Sp} {s₁ : Shared} {vs : List Value} {ns : List Int}
theorem law_callG (kin : K.In s₁.heap) (nsm : s₁.heap.Ns mainGlobals mg) (nsb : s₁.heap.Ns builtinsNs mb) (boot : ∀ x : Str, x ≠ "__name__" → mb x = bootBuiltins x) (lim : s₁.heap.NoLimit) (gens : s₁.gens = #[])
    (obj : s₁.heap.get? a = some { cls := .type "list", data := .seq vs.toArray }) (intz : IntsAre vs ns) (few : ns.length ≤ sizeLine) (room : Room k callerA)
    (F : ∀ base : Heap, K.In base → base.Ns mainGlobals mg → FnG P w K mg base CX k fa fd [x] sp) (bind : ∀ (s : Shared) (u : Value), BindsTo s fd ⟨[u], []⟩ [(x, u)])
    (want : ∀ H : Hp, Only H → SqL K H a (ns.map V.int) → sp [.ref a] H (fun v _ => v = .bl true) fun _ _ _ => False) (noX : ∀ H e s', CX [] H s₁ (fun _ _ _ => False) e s' → False) :
    codeAny (model P w) callerA (.call (.ref fa) ⟨[.ref a], []⟩) (fun r s' => r = .ok (.ret (.bool true)) ∧ OldK s₁.heap s'.heap ∧ s'.os = s₁.os ∧ AllBare s'.gens) s₁ := by
  have rel := vals_ints intz
  have nlen := intz.length
  have core : ∀ H : Hp, Only H → SqL K H a (ns.map V.int) → HOk P w H s₁.heap → (∀ b, H b ≠ none → b = a) → (H a ≠ none → K.lookup a = none) →
      codeAny (model P w) callerA (.call (.ref fa) ⟨[.ref a], []⟩) (fun r s' => r = .ok (.ret (.bool true)) ∧ OldK s₁.heap s'.heap ∧ s'.os = s₁.os ∧ AllBare s'.gens) s₁ := by
    intro H only sq hok at_a out
    have fst : ∀ {b : Addr} {o : Obj}, s₁.heap.get? b = some o → H b = none → (hidT s₁.heap H).get? b = some o := fun e n => hidT_get e n
    have dictless : ∀ {b : Addr} {o : Obj} {es : Array DictEntry} {ep : Nat}, s₁.heap.get? b = some o → o.data = .dict es ep → H b = none := by
      intro b o es ep e d
      match q : H b with
      | none => rfl
      | some u =>
        obtain rfl : b = a := at_a b (fun z => by rw [z] at q; cases q)
        have e2 := obj.symm.trans e
        cases e2
        exact nomatch (show Data.seq vs.toArray _ = Data.dict es ep from d)
    have names : ∀ {b : Addr} {m : Str → Option Value}, s₁.heap.Ns b m → (hidT s₁.heap H).Ns b m := by
      rintro b m ⟨o, es, ep, e, d, r⟩
      exact ⟨o, es, ep, fst e (dictless e d), d, r⟩
    have kb : K.In (hidT s₁.heap H) := by
      intro b o e
      refine fst (kin b o e) ?_
      match q : H b with
      | none => rfl
      | some u =>
        obtain rfl : b = a := at_a b (fun z => by rw [z] at q; cases q)
        have z := out (fun z => by rw [z] at q; cases q)
        exact nomatch (z.symm.trans e)
    obtain ⟨mc, l1, l2⟩ := lim
    have md : Mod K mg (hidT s₁.heap H) := ⟨kb, names nsm, ⟨mb, names nsb, boot⟩, mc, names l1, l2⟩
    have nil : ∀ {b : Addr}, b ∈ ([] : List Addr) → False := fun z => by simp at z
    have env0 : Env0 P w K mg (hidT s₁.heap H) callerA [] s₁ H := ⟨rfl, md, fun b o e => of_hidT e, Nat.le_of_eq (hidT_size _ _), trivial, fun b hb => (nil hb).elim, hok, .of_eq gens⟩
    refine codeAny_mono ((F _ kb (names nsm)).runs callerA [] s₁ H ⟨[.ref a], []⟩ [.ref a] [.ref a] _ _ room rfl env0 (bind s₁ (.ref a)) (.cons rfl .nil) (want H only sq)) fun r s' h => ?_
    match r, h with
    | .error e, h => exact (noX H e s' h).elim
    | .ok .next, h => exact h.elim
    | .ok .brk, h => exact h.elim
    | .ok .cont, h => exact h.elim
    | .ok (.ret u), ⟨v, H', os, bare, un, hok', r', q⟩ =>
      obtain rfl : v = .bl true := q
      obtain rfl : u = Value.bool true := r'
      refine ⟨rfl, OldK.of_keep fun b o e => ?_, os, bare⟩
      match q : H b with
      | none => exact un.keep b o e q (fun z => nil z) (by simp)
      | some u =>
        rcases only b with z | ⟨ob, xs, z⟩
        · exact nomatch (q.symm.trans z)
        · obtain ⟨f1, _⟩ := hok b _ z
          obtain ⟨f2, _⟩ := hok' b _ (un.frzs b ob _ z)
          have e2 := f1.symm.trans e
          cases e2
          exact f2
  match lk : K.lookup a with
  | some o =>
    have e2 := obj.symm.trans (kin a o lk)
    cases e2
    exact core (fun _ => none) (fun _ => .inl rfl) (.inr ⟨_, vs.toArray, _, lk, rfl, rfl, rfl, by rw [List.size_toArray, nlen]; exact few, by simpa using rel⟩) (fun _ _ z => nomatch (show (none : Option HO) = some _ from z)) (fun _ z => (z rfl).elim) fun z => (z rfl).elim
  | none =>
    refine core (fun b => if b = a then some (.frz { cls := .type "list", data := .seq vs.toArray } (.lst (ns.map V.int))) else none) (fun b => ?_) (.inl (.inr ⟨_, if_pos rfl⟩)) (fun b u z => ?_) (fun b z => ?_) fun _ => lk
    · by_cases q : b = a
      · exact .inr ⟨_, _, if_pos q⟩
      · exact .inl (if_neg q)
    · by_cases q : b = a
      · have z2 := (if_pos q).symm.trans z
        cases z2
        subst q
        exact ⟨obj, by rw [List.length_map]; exact few, vs, _, rel, obj⟩
      · exact nomatch (if_neg q).symm.trans z
    · exact Classical.byContradiction fun q => z (if_neg q)
end
theorem walk_G {l : PySem.W.OpenLaw} {n k : Nat} {q : Program} {loose : List Str} {XP : (Str → Option Value) → Heap → Prop} {YP : World → Heap → Prop} {d : DefRec} {CX : CXT} {x : Str} (most : l.most = some n) (few : n ≤ sizeLine) (hdf : d.params.defaults = []) (room : Room k callerA)
    (F : ∀ (w : World) (mg : Str → Option Value) (fa : Addr) (h : Heap), YP w h → h.Ns mainGlobals mg → mg d.name = some (.ref fa) → ∃ (K : PySem.W.Frag) (fd : FuncData) (sp : Sp), K.In h ∧ (∀ (s : Shared) (u : Value), BindsTo s fd ⟨[u], []⟩ [(x, u)]) ∧
        (∀ (H : Hp) (a : Addr) (ns : List Int), ns.length ≤ n → Only H → SqL K H a (ns.map V.int) → sp [.ref a] H (fun v _ => v = .bl true) fun _ _ _ => False) ∧ ∀ base : Heap, K.In base → base.Ns mainGlobals mg → FnG l.prog w K mg base CX k fa fd [x] sp)
    (noX : ∀ (H : Hp) (s : Shared) (e : Value) (s' : Shared), CX [] H s (fun _ _ _ => False) e s' → False) : PySem.W.WalkO q loose XP YP l.row.toRowW d [] (fun f vs => PySem.call f vs) := by
  refine Att.attach_call most hdf fun w s₀ s₁ mg mb fa o pm cd doc a vs ns G Y ho fun_ code name obj intz len gens => ?_
  obtain ⟨K, fd, sp, kin, b, want, ok⟩ := F w mg fa _ Y G.T.g name
  exact law_callG kin G.T.g G.T.b G.T.builtins G.T.nolimit gens obj intz (Nat.le_trans len few) room ok b (fun H o sq => want H a ns len o sq) fun H e s' => noX H s₁ e s'
end GL

set_option maxHeartbeats 4000000
/-! order of data that are alike: >, sorted of what is sorted -/
namespace DL
open PySem PySem.Spec PyProof.Rows L2
theorem zipR : ∀ {xs : List V} {us : List Value} {ds : List PyData}, Vals xs us → ds.length = xs.length → PySem.W.EachIs (fun v (b : PyData × V) => RelV b.2 v) us (ds.zip xs)
  | _, _, [], .nil, _ => .nil
  | _, _, _ :: _, .nil, h => by cases h
  | _, _, [], .cons _ _, h => by cases h
  | _, _, d :: ds, .cons r t, h => .cons r (zipR t (by simpa using h))
theorem zipE {X : Cx} {pins : List (Addr × Obj)} {σ : L2.St} {H : Hp} {s : Shared} (I : L2.Inv X pins σ H s) : ∀ {xs : List V} {us : List Value} {ds : List PyData}, Vals xs us → DpAll X.K H xs ds → PySem.W.EachIs (fun v (b : PyData × V) => ∃ as, Reads s.heap v b.1 as) us (ds.zip xs)
  | _, _, _, .nil, .nil => .nil
  | _, _, _, .cons r t, .cons d e => .cons (Dp.reads I _ _ _ d r) (zipE I t e)
theorem dpl {K : PySem.W.Frag} {H : Hp} : ∀ {xs : List V} {ds : List PyData}, DpAll K H xs ds → ds.length = xs.length
  | _, _, .nil => rfl
  | _, _, .cons _ t => congrArg Nat.succ (dpl t)
theorem outR : ∀ {xs : List V} {out : List Value} {ds : List PyData}, ds.length = xs.length → PySem.W.EachIs (fun v (b : PyData × V) => RelV b.2 v) out (ds.zip xs) → Vals xs out
  | [], _, [], _, .nil => .nil
  | _ :: _, _, _ :: _, h, .cons r t => .cons r (outR (by simpa using h) t)
theorem zip1 : ∀ {xs : List V} {ds : List PyData}, ds.length = xs.length → (ds.zip xs).map (·.1) = ds
  | [], [], _ => rfl
  | _ :: _, d :: ds, h => by
    show d :: (ds.zip _).map (·.1) = _
    rw [zip1 (by simpa using h)]
section
variable {X : Cx}
/-- sorted(list), of data that stand in their order -/
theorem call_sortedD (hu : X.A.units + 64 < cLine) : CallR X (.builtin "sorted") (fun vs H Q => ∃ (a : Addr) (xs : List V) (ds : List PyData), vs = [.ref a] ∧ SqL X.K H a xs ∧ DpAll X.K H xs ds ∧ (∀ d ∈ ds, ∀ e ∈ ds, PySem.W.alike d e = true) ∧
    (∀ d ∈ ds, ∃ x r, d = .tuple (x :: r)) ∧ (∀ d ∈ ds, d.depth ≤ 50) ∧ ds.Pairwise (fun d e => PySem.W.dataLt e d = false) ∧ xs.length ≤ sizeLine ∧ ∀ p H2, H p = none → Same H H2 → H2 p = some (.lst xs) → Q (.ref p) H2) := by
  intro pins s σ H vs us Q I r h
  obtain ⟨a, xs, ds, rfl, hs, hd, hal, hso, hdp, hpw, hz, q⟩ := h
  obtain ⟨its, rv, hl, _⟩ := I.list hs
  rw [Vals.ref1 r]
  have ll := dpl hd
  have e1 := zip1 ll
  have sor : (ds.zip xs).mergeSort (PySem.W.dataLe false fun b : PyData × V => b.1) = ds.zip xs := by
    refine List.mergeSort_of_pairwise ?_
    have : ((ds.zip xs).map (·.1)).Pairwise (fun d e => PySem.W.dataLt e d = false) := by rw [e1]; exact hpw
    rw [List.pairwise_map] at this
    refine this.imp fun {x y} h => ?_
    rw [PySem.W.dataLe_eq]
    show (!PySem.W.dataLt y.1 x.1) = true
    rw [h]; rfl
  refine PySem.W.sorted_data (enc := fun b : PyData × V => b.1) (bs := ds.zip xs) hl.isList (zipR rv ll) (zipE I rv hd) ?_ (.inl fun d hd => ?_) (by rw [List.length_zip]; omega) (fun b hb => ?_) fun out _ eo => ?_
  · rw [e1]; exact hal
  · rw [e1] at hd; exact hso d hd
  · have := hdp b.1 (by rw [← e1]; exact List.mem_map_of_mem hb)
    omega
  · rw [sor] at eo
    have vo := outR ll eo
    obtain ⟨ep, he⟩ := PyProof.Rows.sortedAll_at s.heap its out.toArray
    have nf := I.hok.fresh (Nat.le_succ s.heap.objs.size)
    exact ⟨.ref _, upd H (s.heap.objs.size + 1) (.lst xs), I.laid (t' := s.toks) (fun _ _ => PyProof.Rows.sortedAll_old) (Nat.le_succ _) ⟨hz, out, ep, vo, he⟩, rfl, q _ _ nf (fun b u e => by rw [upd_ne (ne_of_none e nf)]; exact e) upd_same⟩
/-- x > y, of data -/
theorem op_gtD (hu : X.A.units + 64 < cLine) : OpR X (compareOp .Gt) (fun x y H Q => ∃ d e, Dp X.K H x d ∧ Dp X.K H y e ∧ PySem.W.alike d e = true ∧ d ≠ .none ∧ d.depth ≤ 50 ∧ Q (.bl (PySem.W.dataLt e d)) H) := by
  intro pins s σ H x y v u Q I rx ry h
  obtain ⟨d, e, hd, he, al, nn, dp, q⟩ := h
  obtain ⟨as, r1⟩ := Dp.reads I d x v hd rx
  obtain ⟨bs, r2⟩ := Dp.reads I e y u he ry
  exact PySem.W.gt_data r1 r2 al nn (by omega) ⟨.bl _, H, I, rfl, q⟩
end
end DL

set_option maxHeartbeats 4000000
namespace WH
open PySem PySem.Spec PyProof.Rows L2
/-! ### the plain law -/
/-- l' stands ahead of l in the order of rows -/
def Ahead (l' l : List Bool) : Prop := l'.length < l.length ∨ (l'.length = l.length ∧ ∃ k, l'.take k = l.take k ∧ l'[k]? = some true ∧ l[k]? = some false)
theorem stA_ok {w : WN} (ok : okW w) {s : Int} (h1 : 0 ≤ s) (h2 : s ≤ w.cap) (n : Nat) : ∀ (l : List Bool), 0 ≤ (stA w (s, n) l).1 ∧ (stA w (s, n) l).1 ≤ w.cap := by
  intro l
  unfold stA
  induction l generalizing s n with
  | nil => exact ⟨h1, h2⟩
  | cons b l ih =>
    have c := ok.c1
    show 0 ≤ (List.foldl (stepA w) (stepA w (s, n) b) l).1 ∧ _
    have hs : 0 ≤ (stepA w (s, n) b).1 ∧ (stepA w (s, n) b).1 ≤ w.cap := by
      cases b with
      | true =>
        have := turn_le ok h1 n
        exact ⟨this.2, by show w.turn s n ≤ w.cap; omega⟩
      | false =>
        show 0 ≤ w.ask s ∧ w.ask s ≤ w.cap
        by_cases z : s = 0
        · unfold WN.ask; rw [if_pos z]; omega
        · have := ask_ok ok (show 1 ≤ s by omega) h2; omega
    exact ih hs.1 hs.2 _
def stOf (w : WN) (s : Int) (l : List Bool) : Stt := l.foldl (fun st b => w.led b st) (some (s, 0))
theorem stOf_snoc (w : WN) (s : Int) (l : List Bool) (b : Bool) : stOf w s (l ++ [b]) = w.led b (stOf w s l) := by
  unfold stOf; rw [List.foldl_append]; rfl
theorem stA_snoc (w : WN) (p : Int × Nat) (l : List Bool) (b : Bool) : stA w p (l ++ [b]) = stepA w (stA w p l) b := by
  unfold stA; rw [List.foldl_append]; rfl
theorem at_phase {w : WN} (ok : okW w) (n : Nat) : w.at (w.phase n) = w.at n := by
  have tp := ok.tpos
  unfold WN.at WN.phase
  by_cases h : n < w.head.length + w.tail.length
  · rw [if_pos h]
  · rw [if_neg h]
    have m := Nat.mod_lt (n - w.head.length) tp
    rw [if_neg (show ¬ w.head.length + (n - w.head.length) % w.tail.length < w.head.length by omega), if_neg (show ¬ n < w.head.length by omega), Nat.add_sub_cancel_left, Nat.mod_mod]
theorem turn_phase {w : WN} (ok : okW w) (s : Int) (n : Nat) : w.turn s (w.phase n) = w.turn s n := by
  unfold WN.turn; rw [at_phase ok]
theorem phase_zero {w : WN} (ok : okW w) : w.phase 0 = 0 := by
  unfold WN.phase
  have := ok.tpos
  rw [if_pos (by omega)]
theorem phase_succ {w : WN} (ok : okW w) (n : Nat) : w.phase (w.phase n + 1) = w.phase (n + 1) := by
  have tp := ok.tpos
  by_cases h : n < w.head.length + w.tail.length
  · rw [show w.phase n = n by unfold WN.phase; rw [if_pos h]]
  · have m := Nat.mod_lt (n - w.head.length) tp
    have e : w.phase n = w.head.length + (n - w.head.length) % w.tail.length := by unfold WN.phase; rw [if_neg h]
    have e2 : w.phase (n + 1) = w.head.length + (n + 1 - w.head.length) % w.tail.length := by unfold WN.phase; rw [if_neg (by omega)]
    have e3 : (n + 1 - w.head.length) % w.tail.length = ((n - w.head.length) % w.tail.length + 1) % w.tail.length := by
      rw [show n + 1 - w.head.length = n - w.head.length + 1 by omega, Nat.mod_add_mod]
    rw [e2, e3, e]
    generalize (n - w.head.length) % w.tail.length = a at m
    unfold WN.phase
    by_cases h2 : a + 1 < w.tail.length
    · rw [if_pos (by omega), Nat.mod_eq_of_lt h2]; omega
    · have : a + 1 = w.tail.length := by omega
      rw [if_neg (by omega), show w.head.length + a + 1 - w.head.length = a + 1 by omega]
theorem turn_zero {w : WN} (ok : okW w) (n : Nat) : w.turn 0 n = 0 := by
  have := turn_le ok (Int.le_refl 0) n; omega
theorem rev_ind {P : List Bool → Prop} (h0 : P []) (hs : ∀ l b, P l → P (l ++ [b])) (l : List Bool) : P l := by
  rw [← List.reverse_reverse l]
  induction l.reverse with
  | nil => exact h0
  | cons b m ih => rw [List.reverse_cons]; exact hs _ _ ih
theorem stOf_eq {w : WN} (ok : okW w) {s : Int} (h1 : 1 ≤ s) (h2 : s ≤ w.cap) (l : List Bool) : stOf w s l = if (stA w (s, 0) l).1 = 0 then none else some ((stA w (s, 0) l).1, w.phase (stA w (s, 0) l).2) := by
  refine rev_ind (P := fun l => stOf w s l = if (stA w (s, 0) l).1 = 0 then none else some ((stA w (s, 0) l).1, w.phase (stA w (s, 0) l).2)) ?_ ?_ l
  · show some (s, 0) = if s = 0 then none else some (s, w.phase 0)
    rw [if_neg (by omega), phase_zero ok]
  · intro l b ih
    have hb := stA_ok ok (show 0 ≤ s by omega) h2 0 l
    rw [stOf_snoc, stA_snoc, ih]
    generalize stA w (s, 0) l = p at hb
    obtain ⟨a, n⟩ := p
    dsimp only at hb ⊢
    by_cases z : a = 0
    · rw [if_pos z]
      have e : (stepA w (a, n) b).1 = 0 := by
        rw [z]
        cases b with
        | true => exact turn_zero ok n
        | false => show w.ask 0 = 0; unfold WN.ask; rw [if_pos rfl]
      rw [if_pos e]; rfl
    · rw [if_neg z]
      cases b with
      | true =>
        show (if w.turn a (w.phase n) = 0 then none else some (w.turn a (w.phase n), w.phase (w.phase n + 1))) = if w.turn a n = 0 then none else some (w.turn a n, w.phase (n + 1))
        rw [turn_phase ok, phase_succ ok]
      | false =>
        have := ask_ok ok (show 1 ≤ a by omega) hb.2
        show some (w.ask a, if w.anew = true then 0 else w.phase n) = if w.ask a = 0 then none else some (w.ask a, w.phase (if w.anew = true then 0 else n))
        rw [if_neg (show ¬ w.ask a = 0 by omega)]
        cases w.anew
        · rfl
        · show some (w.ask a, 0) = some (w.ask a, w.phase 0)
          rw [phase_zero ok]
/-! the order of rows -/
theorem Ahead.nil {y : List Bool} (h : y ≠ []) : Ahead [] y := .inl (List.length_pos_iff.mpr h)
theorem Ahead.irr {x : List Bool} : ¬ Ahead x x := by
  rintro (h | ⟨_, k, _, h1, h2⟩)
  · omega
  · rw [h1] at h2; cases h2
theorem Ahead.trans {x y z : List Bool} (a : Ahead x y) (b : Ahead y z) : Ahead x z := by
  rcases a with a | ⟨a, k, a1, a2, a3⟩
  · rcases b with b | ⟨b, _⟩
    · exact .inl (by omega)
    · exact .inl (by omega)
  · rcases b with b | ⟨b, m, b1, b2, b3⟩
    · exact .inl (by omega)
    · refine .inr ⟨by omega, ?_⟩
      rcases Nat.lt_trichotomy k m with h | h | h
      · refine ⟨k, ?_, a2, ?_⟩
        · rw [a1]
          have := congrArg (List.take k) b1
          rw [List.take_take, List.take_take, Nat.min_eq_left (by omega)] at this
          exact this
        · have := congrArg (fun l => l[k]?) b1
          simp only [List.getElem?_take, if_pos h] at this
          rw [← this]; exact a3
      · subst h; rw [a3] at b2; cases b2
      · refine ⟨m, ?_, ?_, b3⟩
        · have := congrArg (List.take m) a1
          rw [List.take_take, List.take_take, Nat.min_eq_left (by omega)] at this
          rw [this, b1]
        · have := congrArg (fun l => l[m]?) a1
          simp only [List.getElem?_take, if_pos h] at this
          rw [this]; exact b2
theorem Ahead.snoc {x y : List Bool} (a : Ahead x y) (b c : Bool) : Ahead (x ++ [b]) (y ++ [c]) := by
  rcases a with a | ⟨a, k, a1, a2, a3⟩
  · exact .inl (by simp; exact a)
  · have l1 := (List.getElem?_eq_some_iff.mp a2).1
    have l2 := (List.getElem?_eq_some_iff.mp a3).1
    refine .inr ⟨by simp; exact a, k, ?_, ?_, ?_⟩
    · rw [List.take_append_of_le_length (by omega), List.take_append_of_le_length (by omega), a1]
    · rw [List.getElem?_append_left l1, a2]
    · rw [List.getElem?_append_left l2, a3]
theorem Ahead.tf (r : List Bool) : Ahead (r ++ [true]) (r ++ [false]) := .inr ⟨by simp, r.length, by simp, by simp, by simp⟩
theorem Ahead.longer (r : List Bool) (b : Bool) : Ahead r (r ++ [b]) := .inl (by simp)
/-! the search -/
section
variable {w1 w2 : WN} {s f : Int}
theorem addR_pre (rows : List Row) (q : Row) : ∃ m, addR rows q = rows ++ m := by
  unfold addR
  split
  · exact ⟨[], by simp⟩
  · exact ⟨[q], rfl⟩
theorem run_succ (k : Nat) : run w1 w2 s f (k + 1) = match (run w1 w2 s f k)[k]? with
    | some r => addR (addR (run w1 w2 s f k) (stp w1 w2 r true)) (stp w1 w2 r false)
    | none => run w1 w2 s f k := rfl
theorem run_pre (k : Nat) : ∃ m, run w1 w2 s f (k + 1) = run w1 w2 s f k ++ m := by
  rw [run_succ]
  split
  · rename_i r _
    obtain ⟨a, ha⟩ := addR_pre (run w1 w2 s f k) (stp w1 w2 r true)
    obtain ⟨b, hb⟩ := addR_pre (addR (run w1 w2 s f k) (stp w1 w2 r true)) (stp w1 w2 r false)
    exact ⟨a ++ b, by rw [hb, ha, List.append_assoc]⟩
  · exact ⟨[], by simp⟩
theorem run_mono {j k : Nat} (h : j ≤ k) : ∃ m, run w1 w2 s f k = run w1 w2 s f j ++ m := by
  induction k with
  | zero => obtain rfl : j = 0 := by omega
            exact ⟨[], by simp⟩
  | succ k ih =>
    by_cases e : j = k + 1
    · subst e; exact ⟨[], by simp⟩
    · obtain ⟨m, hm⟩ := ih (by omega)
      obtain ⟨n, hn⟩ := run_pre (w1 := w1) (w2 := w2) (s := s) (f := f) k
      exact ⟨m ++ n, by rw [hn, hm, List.append_assoc]⟩
theorem run_get {j k i : Nat} {r : Row} (h : j ≤ k) (e : (run w1 w2 s f j)[i]? = some r) : (run w1 w2 s f k)[i]? = some r := by
  obtain ⟨m, hm⟩ := run_mono (w1 := w1) (w2 := w2) (s := s) (f := f) h
  rw [hm, List.getElem?_append_left (List.getElem?_eq_some_iff.mp e).1, e]
/-- what stands in the rows -/
structure RI (w1 w2 : WN) (s f : Int) (k : Nat) (R : List Row) : Prop where
  val : ∀ r ∈ R, r.2 = (stOf w1 s r.1, stOf w2 f r.1)
  srt : R.Pairwise fun a b => Ahead a.1 b.1
  src : ∀ r ∈ R, r.1 = [] ∨ ∃ j, j < k ∧ ∃ q c, R[j]? = some q ∧ r.1 = q.1 ++ [c]
theorem RI.add {k : Nat} {R : List Row} {r : Row} (h : RI w1 w2 s f (k + 1) R) (hr : R[k]? = some r) (b : Bool) (hb : ∀ q ∈ R, q.1 = [] ∨ Ahead q.1 (r.1 ++ [b])) : RI w1 w2 s f (k + 1) (addR R (stp w1 w2 r b)) := by
  have vr := h.val r (List.mem_of_getElem? hr)
  unfold addR
  split
  · exact h
  · refine ⟨fun q hq => ?_, ?_, fun q hq => ?_⟩
    · rcases List.mem_append.mp hq with hq | hq
      · exact h.val q hq
      · rw [List.mem_singleton.mp hq]
        show (w1.led b r.2.1, w2.led b r.2.2) = (stOf w1 s (r.1 ++ [b]), stOf w2 f (r.1 ++ [b]))
        rw [stOf_snoc, stOf_snoc, vr]
    · rw [List.pairwise_append]
      refine ⟨h.srt, List.pairwise_singleton _ _, fun x hx y hy => ?_⟩
      rw [List.mem_singleton.mp hy]
      rcases hb x hx with e | e
      · rw [e]; exact Ahead.nil (by show r.1 ++ [b] ≠ []; simp)
      · exact e
    · rcases List.mem_append.mp hq with hq | hq
      · rcases h.src q hq with e | ⟨j, hj, p, c, e1, e2⟩
        · exact .inl e
        · exact .inr ⟨j, hj, p, c, by rw [List.getElem?_append_left (List.getElem?_eq_some_iff.mp e1).1, e1], e2⟩
      · rw [List.mem_singleton.mp hq]
        exact .inr ⟨k, by omega, r, b, by rw [List.getElem?_append_left (List.getElem?_eq_some_iff.mp hr).1, hr], rfl⟩
theorem RI.up {k : Nat} {R : List Row} (h : RI w1 w2 s f k R) : RI w1 w2 s f (k + 1) R :=
  ⟨h.val, h.srt, fun r hr => (h.src r hr).imp id fun ⟨j, hj, x⟩ => ⟨j, by omega, x⟩⟩
theorem RI.lt {k i j : Nat} {R : List Row} {p q : Row} (h : RI w1 w2 s f k R) (hi : R[i]? = some p) (hj : R[j]? = some q) (l : i < j) : Ahead p.1 q.1 := by
  obtain ⟨h1, e1⟩ := List.getElem?_eq_some_iff.mp hi
  obtain ⟨h2, e2⟩ := List.getElem?_eq_some_iff.mp hj
  have := List.pairwise_iff_getElem.mp h.srt i j h1 h2 l
  rw [e1, e2] at this; exact this
theorem run_RI : ∀ k, RI w1 w2 s f k (run w1 w2 s f k)
  | 0 => by
    refine ⟨fun r hr => ?_, List.pairwise_singleton _ _, fun r hr => ?_⟩
    · rw [List.mem_singleton.mp hr]; rfl
    · rw [List.mem_singleton.mp hr]; exact .inl rfl
  | k + 1 => by
    have ih := run_RI k
    unfold run
    split
    · rename_i r hr
      have bel : ∀ (q : Row), q ∈ run w1 w2 s f k → q.1 = [] ∨ ∀ b, Ahead q.1 (r.1 ++ [b]) := fun q hq => by
        rcases ih.src q hq with e | ⟨j, hj, p, c, e1, e2⟩
        · exact .inl e
        · refine .inr fun b => ?_
          rw [e2]
          exact (ih.lt e1 hr hj).snoc c b
      have s1 := ih.up.add hr true fun q hq => (bel q hq).imp id fun h => h true
      refine s1.add ?_ false fun q hq => ?_
      · obtain ⟨m, hm⟩ := addR_pre (run w1 w2 s f k) (stp w1 w2 r true)
        rw [hm, List.getElem?_append_left (List.getElem?_eq_some_iff.mp hr).1, hr]
      · rcases mem_addR hq with hq | hq
        · exact (bel q hq).imp id fun h => h false
        · rw [hq]; exact .inr (Ahead.tf r.1)
    · exact ih.up
theorem run_bel {k : Nat} {r : Row} (hr : (run w1 w2 s f k)[k]? = some r) (b : Bool) : ∀ q ∈ run w1 w2 s f k, Ahead q.1 (r.1 ++ [b]) := fun q hq => by
  have h := run_RI (w1 := w1) (w2 := w2) (s := s) (f := f) k
  rcases h.src q hq with e | ⟨j, hj, p, c, e1, e2⟩
  · rw [e]; exact Ahead.nil (by simp)
  · rw [e2]; exact (h.lt e1 hr hj).snoc c b
theorem addR_has (R : List Row) (x : Row) : ∃ q ∈ addR R x, q.2 = x.2 ∧ (q ∈ R ∨ q = x) := by
  unfold addR
  split
  · rename_i h
    obtain ⟨q, hq, e⟩ := List.mem_map.mp h
    exact ⟨q, hq, e, .inl hq⟩
  · exact ⟨x, by simp, rfl, .inr rfl⟩
/-- behind the turn at j the pair of a child stands in the rows, under a row not behind the child's -/
theorem run_child {j k : Nat} {r : Row} (b : Bool) (hr : (run w1 w2 s f j)[j]? = some r) (hk : j < k) : ∃ (i : Nat) (q : Row), (run w1 w2 s f k)[i]? = some q ∧ q.2 = (stp w1 w2 r b).2 ∧ (q.1 = r.1 ++ [b] ∨ Ahead q.1 (r.1 ++ [b])) := by
  have key : ∃ q ∈ run w1 w2 s f (j + 1), q.2 = (stp w1 w2 r b).2 ∧ (q.1 = r.1 ++ [b] ∨ Ahead q.1 (r.1 ++ [b])) := by
    rw [run_succ, hr]
    dsimp only
    cases b with
    | false =>
      obtain ⟨q, hq, e, h⟩ := addR_has (addR (run w1 w2 s f j) (stp w1 w2 r true)) (stp w1 w2 r false)
      refine ⟨q, hq, e, ?_⟩
      rcases h with h | h
      · rcases mem_addR h with h | h
        · exact .inr (run_bel hr false q h)
        · rw [h]; exact .inr (Ahead.tf r.1)
      · rw [h]; exact .inl rfl
    | true =>
      obtain ⟨q, hq, e, h⟩ := addR_has (run w1 w2 s f j) (stp w1 w2 r true)
      obtain ⟨m, hm⟩ := addR_pre (addR (run w1 w2 s f j) (stp w1 w2 r true)) (stp w1 w2 r false)
      refine ⟨q, by rw [hm]; exact List.mem_append_left _ hq, e, ?_⟩
      rcases h with h | h
      · exact .inr (run_bel hr true q h)
      · rw [h]; exact .inl rfl
  obtain ⟨q, hq, e⟩ := key
  obtain ⟨i, hi, ei⟩ := List.mem_iff_getElem.mp hq
  exact ⟨i, q, run_get hk (by rw [List.getElem?_eq_getElem hi, ei]), e⟩
theorem run_back {j k : Nat} {r : Row} (hk : j ≤ k) (hc : Clean w1 w2 s f k) (h : j < k) (e : (run w1 w2 s f k)[j]? = some r) : (run w1 w2 s f j)[j]? = some r ∧ parts r.2 = false := by
  obtain ⟨q, hq, hp⟩ := hc j h
  have := run_get hk hq
  rw [e] at this
  cases this
  exact ⟨hq, hp⟩
/-- an entry for each row ahead -/
theorem run_all {k : Nat} {row : List Bool} {p : Stt × Stt} (hc : Clean w1 w2 s f k) (hk : (run w1 w2 s f k)[k]? = some (row, p)) : ∀ l, Ahead l row → ∃ j q, j < k ∧ (run w1 w2 s f k)[j]? = some q ∧ q.2 = (stOf w1 s l, stOf w2 f l) ∧ (q.1 = l ∨ Ahead q.1 l) := by
  have I := run_RI (w1 := w1) (w2 := w2) (s := s) (f := f) k
  have idx : ∀ {i : Nat} {q : Row}, (run w1 w2 s f k)[i]? = some q → Ahead q.1 row → i < k := fun {i q} hi ha => by
    rcases Nat.lt_trichotomy i k with h | h | h
    · exact h
    · subst h; rw [hk] at hi; cases hi; exact absurd ha Ahead.irr
    · exact absurd ((I.lt hk hi h).trans ha) Ahead.irr
  refine rev_ind ?_ ?_
  · intro ha
    have h0 : (run w1 w2 s f k)[0]? = some ([], (some (s, 0), some (f, 0))) := run_get (Nat.zero_le k) rfl
    exact ⟨0, _, idx h0 ha, h0, rfl, .inl rfl⟩
  · intro l b ih ha
    obtain ⟨j, q, hj, hq, e, hl⟩ := ih ((Ahead.longer l b).trans ha)
    have hb := (run_back (Nat.le_of_lt hj) hc hj hq).1
    obtain ⟨i, q', hi, e', hl'⟩ := run_child b hb hj
    have hle : q.1 ++ [b] = l ++ [b] ∨ Ahead (q.1 ++ [b]) (l ++ [b]) := by
      rcases hl with h | h
      · exact .inl (by rw [h])
      · exact .inr (h.snoc b b)
    have hq' : q'.1 = l ++ [b] ∨ Ahead q'.1 (l ++ [b]) := by
      rcases hl' with h | h <;> rcases hle with g | g
      · exact .inl (h.trans g)
      · rw [h]; exact .inr g
      · rw [← g]; exact .inr h
      · exact .inr (h.trans g)
    have hr : Ahead q'.1 row := by
      rcases hq' with h | h
      · rw [h]; exact ha
      · exact h.trans ha
    refine ⟨i, q', idx hi hr, hi, ?_, hq'⟩
    rw [e', stOf_snoc, stOf_snoc]
    show (w1.led b q.2.1, w2.led b q.2.2) = _
    rw [e]
theorem addR_nd {R : List Row} (h : (R.map (·.2)).Nodup) (q : Row) : ((addR R q).map (·.2)).Nodup := by
  unfold addR
  split
  · exact h
  · rename_i n
    rw [List.map_append, List.nodup_append]
    refine ⟨h, by simp, fun a ha b hb e => ?_⟩
    rw [List.map_singleton, List.mem_singleton] at hb
    exact n (by rw [← hb, ← e]; exact ha)
theorem run_nd : ∀ k, ((run w1 w2 s f k).map (·.2)).Nodup
  | 0 => by simp [run]
  | k + 1 => by
    rw [run_succ]
    split
    · exact addR_nd (addR_nd (run_nd k) _) _
    · exact run_nd k
theorem run_val {k : Nat} {r : Row} (h : r ∈ run w1 w2 s f k) : r.2 = (stOf w1 s r.1, stOf w2 f r.1) := (run_RI k).val r h
/-- a closed list: each further pair stands in it, under a row not behind -/
theorem run_closed {k j : Nat} {r : Row} (hc : Clean w1 w2 s f k) (hk : k = (run w1 w2 s f k).length) (hj : (run w1 w2 s f k)[j]? = some r) (b : Bool) :
    ∃ (i : Nat) (q : Row), (run w1 w2 s f k)[i]? = some q ∧ q.2 = (stp w1 w2 r b).2 ∧ (q.1 = r.1 ++ [b] ∨ Ahead q.1 (r.1 ++ [b])) := by
  have lt : j < k := by rw [hk]; exact (List.getElem?_eq_some_iff.mp hj).1
  exact run_child b (run_back (Nat.le_of_lt lt) hc lt hj).1 lt
end
/-! alike by form -/
theorem stA_same {w1 w2 : WN} (h : ∀ n, w1.at n = w2.at n) (c : w1.cap = w2.cap) (l : w1.lift = w2.lift) (a : w1.anew = w2.anew) (p : Int × Nat) (r : List Bool) : stA w1 p r = stA w2 p r := by
  have e : stepA w1 = stepA w2 := by
    funext p b
    unfold stepA WN.turn WN.ask WN.nxt
    rw [h, c, l, a]
  unfold stA
  rw [e]
theorem form_none {w1 w2 : WN} (o1 : okW w1) (o2 : okW w2) (h : ∀ n, w1.at n = w2.at n) (c : w1.cap = w2.cap) (l : w1.lift = w2.lift) (a : w1.anew = w2.anew) {s : Int} (h1 : 1 ≤ s) (h2 : s ≤ w1.cap) (r : List Bool) : parts (stOf w1 s r, stOf w2 s r) = false := by
  rw [stOf_eq o1 h1 h2, stOf_eq o2 h1 (by rw [← c]; exact h2), stA_same h c l a]
  unfold parts
  by_cases z : (stA w2 (s, 0) r).1 = 0
  · rw [if_pos z, if_pos z]; rfl
  · rw [if_neg z, if_neg z]; rfl
/-- a wane whose steps are all idle -/
def Idle (w : WN) : Prop := ∀ n, w.at n = (1, 0)
theorem idle_some {w : WN} (ok : okW w) (h : Idle w) {s : Int} (h1 : 1 ≤ s) (h2 : s ≤ w.cap) (r : List Bool) : (stOf w s r).isNone = false := by
  have key : ∀ l, 1 ≤ (stA w (s, 0) l).1 ∧ (stA w (s, 0) l).1 ≤ w.cap := by
    refine rev_ind ⟨h1, h2⟩ fun l b ih => ?_
    rw [stA_snoc]
    cases b with
    | true =>
      show 1 ≤ w.turn _ _ ∧ w.turn _ _ ≤ _
      unfold WN.turn
      rw [h, Int.ediv_one, Int.sub_zero, if_pos (by omega)]
      exact ih
    | false => exact ask_ok ok ih.1 ih.2
  rw [stOf_eq ok h1 h2, if_neg (by have := (key r).1; omega)]; rfl
theorem idle_none {w1 w2 : WN} (o1 : okW w1) (o2 : okW w2) (i1 : Idle w1) (i2 : Idle w2) {s f : Int} (h1 : 1 ≤ s) (h2 : s ≤ w1.cap) (h3 : 1 ≤ f) (h4 : f ≤ w2.cap) (r : List Bool) : parts (stOf w1 s r, stOf w2 f r) = false := by
  unfold parts
  rw [idle_some o1 i1 h1 h2, idle_some o2 i2 h3 h4]; rfl
theorem idle_of {w : WN} (tp : 1 ≤ w.tail.length) (h : ∀ x ∈ w.head, x = (1, 0)) (t : ∀ x ∈ w.tail, x = (1, 0)) : Idle w := fun n => by
  unfold WN.at
  split
  · rename_i c
    exact h _ (getD_mem c)
  · exact t _ (getD_mem (Nat.mod_lt _ tp))
theorem rep_get (t : List (Int × Int)) (tp : 1 ≤ t.length) : ∀ (a i : Nat), i < a * t.length → (List.replicate a t).flatten.getD i (1, 0) = t.getD (i % t.length) (1, 0)
  | 0, i, h => by simp at h
  | a + 1, i, h => by
    rw [List.replicate_succ, List.flatten_cons]
    by_cases c : i < t.length
    · rw [Nat.mod_eq_of_lt c, List.getD_eq_getElem?_getD, List.getElem?_append_left c, List.getD_eq_getElem?_getD]
    · rw [List.getD_eq_getElem?_getD, List.getElem?_append_right (by omega), ← List.getD_eq_getElem?_getD, rep_get t tp a (i - t.length) (by rw [Nat.add_one_mul] at h; omega)]
      rw [Nat.mod_eq_sub_mod (show i ≥ t.length by omega)]
theorem rep_len (t : List (Int × Int)) (a : Nat) : (List.replicate a t).flatten.length = a * t.length := by simp
/-- head and tail, the tail put a times behind the head, b times over -/
theorem at_form (h t : List (Int × Int)) (tp : 1 ≤ t.length) (a b : Nat) (hb : 1 ≤ b) (c l c' l' : Int) (an an' : Bool) (n : Nat) :
    WN.at ⟨h ++ (List.replicate a t).flatten, (List.replicate b t).flatten, c, l, an⟩ n = WN.at ⟨h, t, c', l', an'⟩ n := by
  unfold WN.at
  dsimp only
  rw [List.length_append, rep_len, rep_len]
  by_cases c1 : n < h.length
  · rw [if_pos (by omega), if_pos c1, List.getD_eq_getElem?_getD, List.getElem?_append_left c1, List.getD_eq_getElem?_getD]
  · rw [if_neg c1]
    by_cases c2 : n < h.length + a * t.length
    · rw [if_pos c2, List.getD_eq_getElem?_getD, List.getElem?_append_right (by omega), ← List.getD_eq_getElem?_getD, rep_get t tp a _ (by omega)]
    · have bt : 0 < b * t.length := Nat.mul_pos (by omega) (by omega)
      rw [if_neg c2, rep_get t tp b _ (Nat.mod_lt _ bt), Nat.mod_mul_left_mod, show n - (h.length + a * t.length) = n - h.length - a * t.length by omega]
      congr 1
      have : n - h.length = n - h.length - a * t.length + t.length * a := by rw [Nat.mul_comm t.length a]; omega
      rw [this, Nat.add_mul_mod_self_left, ← this]
end WH

set_option maxHeartbeats 2000000
/-! a Hook whose heap begins at the module's names and at the table of statics -/
namespace HS
open PySem PySem.Spec PyProof.Rows L2
def asS (g : Addr → Option Obj) : Nat → List Addr
  | 0 => [mainGlobals, cStatics]
  | n + 1 => He.growD g (asS g n)
abbrev AlS : Type := He.AlD × Bool
def obsS (n : Nat) (fa : List He.Fa) (fn : List He.DefD) (ex : PySem.W.Frag → Bool) (g : Addr → Option Obj) : AlS := (He.obsD fa fn (He.frG g (asS g n)), ex (He.frG g (asS g n)))
def SaysS (fa : List He.Fa) (fn : List He.DefD) (ex : PySem.W.Frag → Bool) (K : PySem.W.Frag) : Prop := He.SaysD fa fn K ∧ ex K = true
def hookS (n : Nat) (fa : List He.Fa) (fn : List He.DefD) (ex : PySem.W.Frag → Bool) : PySem.W.Hook where
  α := AlS
  obs := fun s => obsS n fa fn ex s.heap.get?
  val := fun _ => (He.valD fn, true)
  says := fun _ h => ∃ K : PySem.W.Frag, K.In h ∧ SaysS fa fn ex K
  of := fun _ _ e => ⟨_, He.frG_in, congrArg (fun z : AlS => z.1) e, congrArg (fun z : AlS => z.2) e⟩
  keeps := fun _ _ _ ⟨K, hK, c⟩ k => ⟨K, PySem.W.Frag.In.keeps hK k, c⟩
theorem obsS_eq {n : Nat} {fa : List He.Fa} {fn : List He.DefD} {ex : PySem.W.Frag → Bool} {g : Addr → Option Obj} {s : Shared} (h : ∀ a, g a = s.heap.get? a) : obsS n fa fn ex g = (hookS n fa fn ex).obs s := by
  have e : g = s.heap.get? := funext h
  rw [e] <;> rfl
end HS

set_option maxHeartbeats 4000000
namespace WH
open PySem PySem.Spec PyProof.Rows L2
section
variable {P : Program} {w : World} {K : PySem.W.Frag} {mg : Str → Option Value} {base : Heap}
theorem cm_bool {i : Int} (k : Bool) : CMul i (if k = true then 1 else 0) := by
  cases k
  · exact .inr ⟨by decide, by decide⟩
  · exact .inr ⟨by decide, by decide⟩
theorem sgn_of {l : List Bool} {i c : Nat} (hc : (rowS l).cps[i]? = some c) : ∃ b, l[i]? = some b ∧ V.str ⟨#[c]⟩ = V.str (sgn b) := by
  have : (l.map code)[i]? = some c := by simpa [rowS, SX.S] using hc
  rw [List.getElem?_map] at this
  obtain ⟨b, h, rfl⟩ := Option.map_eq_some_iff.mp this
  exact ⟨b, h, by cases b <;> decide +kernel⟩
theorem rowS_size (l : List Bool) : (rowS l).cps.size = l.length := by simp [rowS, SX.S]
theorem nxt_eq {w : WN} {n : Nat} : (n : Int) * (if (!w.anew) = true then 1 else 0) = (w.nxt false n : Nat) := by
  unfold WN.nxt
  cases w.anew <;> simp
theorem stOf_ok {w : WN} (ok : okW w) {s : Int} (h1 : 1 ≤ s) (h2 : s ≤ w.cap) : ∀ l, okSt w (stOf w s l) :=
  rev_ind ⟨h1, h2, by have := ok.tpos; omega⟩ fun l b ih => by rw [stOf_snoc]; exact led_ok ok b ih
/-- a pair of states -/
def PrV (H : Hp) (v : V) (q : Stt × Stt) : Prop := ∃ p v1 v2, v = .ref p ∧ H p = some (.tup [v1, v2]) ∧ SttV H v1 q.1 ∧ SttV H v2 q.2
theorem PrV.mono {H H' : Hp} (s : Same H H') {v : V} {q : Stt × Stt} (h : PrV H v q) : PrV H' v q := by
  obtain ⟨p, v1, v2, rfl, h, h1, h2⟩ := h
  exact ⟨p, v1, v2, rfl, s _ _ h, h1.mono s, h2.mono s⟩
end
end WH

set_option maxHeartbeats 4000000
namespace WH
open PySem PySem.Spec PyProof.Rows L2
/-! ### data of states, of orders -/
def stD : Stt → PyData
  | none => .none
  | some p => .tuple [.int p.1, .int (p.2 : Nat)]
def prD (q : Stt × Stt) : PyData := .tuple [stD q.1, stD q.2]
def ordD (l : List Bool) : PyData := .tuple [.int l.length, .list (l.map fun b => .int (if b then 0 else 1))]
theorem stD_dp {K : PySem.W.Frag} {H : Hp} {v : V} : ∀ {st : Stt}, SttV H v st → Dp K H v (stD st)
  | none, h => by obtain rfl : v = .non := h; exact .non
  | some p, ⟨b, e, h⟩ => by subst e; exact .tup (SqT.of h) (.cons (.int _) (.cons (.int _) .nil))
theorem prD_dp {K : PySem.W.Frag} {H : Hp} {p : Addr} {v1 v2 : V} {q : Stt × Stt} (h : H p = some (.tup [v1, v2])) (h1 : SttV H v1 q.1) (h2 : SttV H v2 q.2) : Dp K H (.ref p) (prD q) := .tup (SqT.of h) (.cons (stD_dp h1) (.cons (stD_dp h2) .nil))
def small (i : Int) : Prop := 0 ≤ i ∧ i < 1000000000000
theorem small_log {i : Int} (h : small i) : decide (i.natAbs.log2 < 1920) = true := by
  rw [decide_eq_true_eq]
  by_cases z : i.natAbs = 0
  · rw [z]; decide
  · rw [Nat.log2_lt z]
    have h1 := h.1
    have h2 := h.2
    exact Nat.lt_of_lt_of_le (show i.natAbs < 2 ^ 40 by omega) (Nat.pow_le_pow_right (by decide) (by decide))
theorem small_short {i : Int} (h : small i) : decide ((PyData.shown (.int i)).length ≤ 13) = true := by
  rw [decide_eq_true_eq]
  have h1 := h.1
  have h2 := h.2
  exact PyData.shown_int_le (by omega)
theorem small_weight {i : Int} (h : small i) : (if i == 0 then 0 else i.natAbs.log2 + 1) ≤ 64 := by
  have h1 := h.1
  have h2 := h.2
  split
  · omega
  · rename_i z
    have z : i.natAbs ≠ 0 := fun e => z (by simp; omega)
    have := (Nat.log2_lt z (k := 40)).mpr (by omega)
    omega
structure Shows (d : PyData) : Prop where
  a : d.showable = true
  b : d.hasDict = false
  c : d.depth ≤ 60
  d : d.shown.length ≤ sizeLine
def okU (st : Stt) : Prop := match st with
  | none => True
  | some (s, n) => small s ∧ n < 100
theorem okSt.u {w : WN} (ok : okW w) : ∀ {st : Stt}, okSt w st → okU st
  | none, _ => trivial
  | some (s, n), ⟨h1, h2, h3⟩ => by
    have := ok.c2
    have := ok.hl
    have := (tails_le ok.tl).2
    exact ⟨⟨by omega, by omega⟩, by omega⟩
theorem prD_shows {q : Stt × Stt} (h1 : okU q.1) (h2 : okU q.2) : Shows (prD q) := by
  obtain ⟨a, b⟩ := q
  have key : ∀ st : Stt, okU st → (stD st).showable = true ∧ (stD st).hasDict = false ∧ (stD st).depth ≤ 4 ∧ (stD st).leavesShort 13 = true ∧ (stD st).weight ≤ 1000 := by
    intro st h
    match st, h with
    | none, _ => exact ⟨rfl, rfl, by simp [stD, PyData.depth], rfl, by simp [stD, PyData.weight]⟩
    | some (s, n), ⟨hs, hn⟩ =>
      have hn2 : small ((n : Nat) : Int) := ⟨by omega, by omega⟩
      refine ⟨?_, rfl, ?_, ?_, ?_⟩
      · show (decide (s.natAbs.log2 < 1920) && (decide (((n : Nat) : Int).natAbs.log2 < 1920) && true)) = true
        rw [small_log hs, small_log hn2]; rfl
      · simp [stD, PyData.depth, PyData.depthAll]
      · show (decide ((PyData.shown (.int s)).length ≤ 13) && (decide ((PyData.shown (.int (n : Nat))).length ≤ 13) && true)) = true
        rw [small_short hs, small_short hn2]; rfl
      · show (if s == 0 then 0 else s.natAbs.log2 + 1) + 1 + ((if ((n : Nat) : Int) == 0 then 0 else ((n : Nat) : Int).natAbs.log2 + 1) + 1 + 0) ≤ 1000
        have := small_weight hs
        have := small_weight hn2
        omega
  obtain ⟨a1, a2, a3, a4, a5⟩ := key a h1
  obtain ⟨b1, b2, b3, b4, b5⟩ := key b h2
  refine ⟨?_, ?_, ?_, PyData.shown_fits (B := 13) (by decide) (by decide) ?_ ?_⟩
  · show ((stD a).showable && ((stD b).showable && true)) = true
    rw [a1, b1]; rfl
  · show ((stD a).hasDict || ((stD b).hasDict || false)) = false
    rw [a2, b2]; rfl
  · show PyData.depth (.tuple [stD a, stD b]) ≤ 60
    simp only [PyData.depth, PyData.depthAll]; omega
  · show ((stD a).leavesShort 13 && ((stD b).leavesShort 13 && true)) = true
    rw [a4, b4]; rfl
  · show (stD a).weight + 1 + ((stD b).weight + 1 + 0) ≤ 2 ^ 20
    omega
def ints01 (l : List Bool) : List PyData := l.map fun b => .int (if b then 0 else 1)
theorem alike01 : ∀ a b : List Bool, PySem.W.alikeAll (ints01 a) (ints01 b) = true
  | [], _ => by simp [ints01, PySem.W.alikeAll]
  | _ :: _, [] => by simp [ints01, PySem.W.alikeAll]
  | x :: a, y :: b => by
    show PySem.W.alikeAll (.int _ :: ints01 a) (.int _ :: ints01 b) = true
    rw [PySem.W.alikeAll, alike01 a b]
    simp [PySem.W.alike]
theorem ordD_alike (a b : List Bool) : PySem.W.alike (ordD a) (ordD b) = true := by
  have := alike01 a b
  unfold ints01 at this
  simp [ordD, PySem.W.alike, PySem.W.alikeAll, this]
theorem depth01 : ∀ a : List Bool, PyData.depthAll (ints01 a) = 0
  | [] => by simp [ints01, PyData.depthAll]
  | x :: a => by
    show PyData.depthAll (.int _ :: ints01 a) = 0
    rw [PyData.depthAll, depth01 a]
    simp [PyData.depth]
theorem ordD_depth (a : List Bool) : (ordD a).depth ≤ 4 := by
  have := depth01 a
  unfold ints01 at this
  simp [ordD, PyData.depth, PyData.depthAll, this]
theorem lt01 : ∀ a b : List Bool, a.length = b.length → (a = b ∨ ∃ k, a.take k = b.take k ∧ a[k]? = some true ∧ b[k]? = some false) → PyProof.Rows.lexLt PyProof.Rows.itemOrd (PySem.W.keyToksAll (ints01 b)) (PySem.W.keyToksAll (ints01 a)) = false
  | [], [], _, _ => PyProof.Rows.lex_irrefl _
  | x :: a, y :: b, hl, h => by
    have al : PySem.W.alike (.int (if y then 0 else 1)) (.int (if x then 0 else 1)) = true := by simp [PySem.W.alike]
    show PyProof.Rows.lexLt PyProof.Rows.itemOrd (PySem.W.keyToksAll (.int (if y then 0 else 1) :: ints01 b)) (PySem.W.keyToksAll (.int (if x then 0 else 1) :: ints01 a)) = false
    rw [PySem.W.dataLt_cons al]
    by_cases e : x = y
    · subst e
      have ev : PyData.eqv (.int (if x then 0 else 1)) (.int (if x then 0 else 1)) = true := by simp [PyData.eqv]
      rw [if_pos ev]
      refine lt01 a b (by simpa using hl) ?_
      rcases h with h | ⟨k, h1, h2, h3⟩
      · exact .inl (by simpa using h)
      · match k, h1, h2, h3 with
        | 0, _, h2, h3 => simp at h2 h3; rw [h2] at h3; cases h3
        | k + 1, h1, h2, h3 => exact .inr ⟨k, by simpa using h1, by simpa using h2, by simpa using h3⟩
    · have xy : x = true ∧ y = false := by
        rcases h with h | ⟨k, h1, h2, h3⟩
        · cases h; exact absurd rfl e
        · match k, h1, h2, h3 with
          | 0, _, h2, h3 => simp at h2 h3; exact ⟨h2, h3⟩
          | k + 1, h1, _, _ => simp at h1; exact absurd h1.1 e
      obtain ⟨rfl, rfl⟩ := xy
      rw [if_neg (by simp [PyData.eqv]), PySem.W.dataLt_int]
      decide
theorem ordD_le {a b : List Bool} (h : a = b ∨ Ahead a b) : PySem.W.dataLt (ordD b) (ordD a) = false := by
  have al : PySem.W.alike (.int b.length) (.int a.length) = true := by simp [PySem.W.alike]
  have al2 : PySem.W.alike (.list (ints01 b)) (.list (ints01 a)) = true := by rw [PySem.W.alike]; exact alike01 b a
  show PySem.W.dataLt (.tuple [.int b.length, .list (ints01 b)]) (.tuple [.int a.length, .list (ints01 a)]) = false
  rw [PySem.W.dataLt_pair al al2]
  by_cases e : a.length = b.length
  · rw [if_pos (by simp [PyData.eqv, e])]
    split
    · rfl
    · rw [PySem.W.dataLt_list]
      refine lt01 a b e ?_
      rcases h with h | h | ⟨_, h⟩
      · exact .inl h
      · omega
      · exact .inr h
  · rw [if_neg (by simp [PyData.eqv]; omega), PySem.W.dataLt_int]
    refine decide_eq_false ?_
    rcases h with h | h | ⟨h, _⟩
    · exact absurd (congrArg List.length h) e
    · omega
    · omega
end WH

set_option maxHeartbeats 4000000
namespace WH
open PySem PySem.Spec PyProof.Rows L2
/-! ### what is due by so many pairs -/
inductive Due where
  | parted (row : List Bool)
  | alike (rows : List Row)
  | refused (m : Nat)
section
variable {w1 w2 : WN} {s f : Int}
/-- the search stands at k: all ahead of it clean, it is the last, or its pair parts -/
structure Ends_ (w1 w2 : WN) (s f : Int) (k : Nat) : Prop where
  cl : Clean w1 w2 s f k
  le : k ≤ (run w1 w2 s f k).length
  en : k = (run w1 w2 s f k).length ∨ ∃ r, (run w1 w2 s f k)[k]? = some r ∧ parts r.2 = true
inductive IsDue (w1 w2 : WN) (s f : Int) (m : Nat) : Due → Prop
  | parted {k : Nat} {row : List Bool} {p : Stt × Stt} : Clean w1 w2 s f k → (run w1 w2 s f k)[k]? = some (row, p) → parts p = true → k < m → IsDue w1 w2 s f m (.parted row)
  | alike {k : Nat} : Clean w1 w2 s f k → k = (run w1 w2 s f k).length → k ≤ m → IsDue w1 w2 s f m (.alike (run w1 w2 s f k))
  | refused : Clean w1 w2 s f m → m < (run w1 w2 s f m).length → IsDue w1 w2 s f m (.refused m)
theorem run_fix {k : Nat} (hk : (run w1 w2 s f k).length ≤ k) : ∀ d, run w1 w2 s f (k + d) = run w1 w2 s f k
  | 0 => rfl
  | d + 1 => by
    have ih := run_fix hk d
    show run w1 w2 s f (k + d + 1) = _
    rw [run_succ, ih, List.getElem?_eq_none (by omega)]
theorem run_fix_le {k j : Nat} (hk : (run w1 w2 s f k).length ≤ k) (h : k ≤ j) : run w1 w2 s f j = run w1 w2 s f k := by
  obtain ⟨d, rfl⟩ := Nat.exists_eq_add_of_le h
  exact run_fix hk d
theorem clean_part {k j : Nat} {r : Row} (c : Clean w1 w2 s f k) (hr : (run w1 w2 s f j)[j]? = some r) (hp : parts r.2 = true) : k ≤ j := by
  rcases Nat.lt_or_ge j k with h | h
  · obtain ⟨q, hq, hp'⟩ := c j h
    rw [hr] at hq
    cases hq
    rw [hp] at hp'; cases hp'
  · exact h
/-- two ends of the search are one -/
theorem ends_one {j k : Nat} (a : Ends_ w1 w2 s f j) (b : Ends_ w1 w2 s f k) : j = k := by
  have key : ∀ {j k : Nat}, Ends_ w1 w2 s f j → Ends_ w1 w2 s f k → k ≤ j := by
    intro j k a b
    rcases a.en with e | ⟨r, hr, hp⟩
    · rcases Nat.lt_or_ge j k with h | h
      · obtain ⟨q, hq, _⟩ := b.cl j h
        have := (List.getElem?_eq_some_iff.mp hq).1
        omega
      · exact h
    · exact clean_part b.cl hr hp
  exact Nat.le_antisymm (key b a) (key a b)
/-- what is due, by where the search ends -/
def due (w1 w2 : WN) (s f : Int) (k m : Nat) : Due :=
  match (run w1 w2 s f k)[k]? with
  | some r => if k < m then .parted r.1 else .refused m
  | none => if k ≤ m then .alike (run w1 w2 s f k) else .refused m
theorem Clean.le {j k : Nat} (c : Clean w1 w2 s f k) (h : j ≤ k) : Clean w1 w2 s f j := fun i hi => c i (by omega)
theorem due_of {k m : Nat} {o : Due} (e : Ends_ w1 w2 s f k) (d : IsDue w1 w2 s f m o) : o = due w1 w2 s f k m := by
  cases d with
  | @parted j row p c hr hp hm =>
    have := (List.getElem?_eq_some_iff.mp hr).1
    obtain rfl := ends_one ⟨c, by omega, .inr ⟨_, hr, hp⟩⟩ e
    unfold due
    rw [hr]
    show _ = if j < m then Due.parted row else _
    rw [if_pos hm]
  | @alike j c hk hm =>
    obtain rfl := ends_one ⟨c, by omega, .inl hk⟩ e
    unfold due
    rw [List.getElem?_eq_none (by omega)]
    show _ = if j ≤ m then _ else _
    rw [if_pos hm]
  | refused c hm =>
    have mk : m ≤ k := by
      rcases e.en with h | ⟨r, hr, hp⟩
      · rcases Nat.lt_or_ge k m with g | g
        · have := run_fix_le (w1 := w1) (w2 := w2) (s := s) (f := f) (show (run w1 w2 s f k).length ≤ k by omega) (show k ≤ m by omega)
          rw [this] at hm; omega
        · exact g
      · exact clean_part c hr hp
    unfold due
    rcases e.en with h | ⟨r, hr, hp⟩
    · rw [List.getElem?_eq_none (by omega)]
      show _ = if k ≤ m then _ else _
      rw [if_neg (fun g => by
        have : k = m := by omega
        subst this; omega)]
    · rw [hr]
      show _ = if k < m then _ else _
      rw [if_neg (by omega)]
end
end WH

set_option maxHeartbeats 4000000
namespace WH
open PySem PySem.Spec PyProof.Rows L2
section
variable {X : Cx} {CX : CXT} {k j n : Nat} {f : Addr} {ps ks : List Str} {sp : Sp} {E : L2.St → XK} {x : Str} {p pos : Pos} {e : Expr} {es : List Expr} {kws : List Keyword} {t tk : TA} {gV : List V → List V → List V}
theorem pass0At {X : Cx} (σ : L2.St) : PassesAt (L2.CX X.prog X.w) X σ C8.E0 := fun a b c d e f g => by
  obtain ⟨_, _, _, _, _, _, _, _, _, _, _, _, z⟩ := g
  exact z.elim
theorem pe_cNS (c : ∃ fd g, FnOk X.prog X.w X.K X.mg X.base CX k f fd ps sp ∧ KBn X.K fd ps n ks g gV ∧ PySem.W.keepIn X.K (.ref f) = true) (hr : Room j X.A) (hk : k ≤ j) (hg : Gl X x) (hm : X.mg x = some (.ref f)) (hx : ∀ σ, PassesAt CX X σ (E σ))
    (ha : PA X (e :: es) t) (hkw : PK X kws tk) (hall : (backToKw pos (keywordEach kws X.env)).all (·.1.isSome) = true := by rfl) (hks : (backToKw pos (keywordEach kws X.env)).filterMap (·.1) = ks := by rfl)
    (hdb : (x == ("__debug__" : Str)) = false := by decide) (he : starEach (e :: es) X.env = (false, eval e X.env) :: starEach es X.env := by rfl)
    (hpl : ((backTo pos (starEach (e :: es) X.env)).any (·.1) || (backToKw pos (keywordEach kws X.env)).any (·.1.isNone)) = false := by rfl) :
    PE X (.Call (.Name x p) (e :: es) kws pos) (EX.tCallNS n ks.length sp gV E t tk) := by
  obtain ⟨fd, g, F, b, kp⟩ := c
  exact EX.pe_callNS F (hr.mono hk) hg hm kp b hx ha hkw hall hks hdb he hpl
end
/-! ### effects -/
structure E4 where
  least : Int
  add : Int
  by_ : Int
  top : Int
structure okE (e : E4) (cap : Int) : Prop where
  b : 1 ≤ e.by_
  t : e.top ≤ cap
def turnE (st : Int × Int) (cap : Int) : Option E4 := if cap / st.1 - st.2 < 1 then none else some ⟨st.1 * (st.2 + 1), -(st.1 * st.2), st.1, cap / st.1 - st.2⟩
def joinE (e f : E4) : Option E4 := if e.top < f.least then none else some ⟨if f.least * e.by_ - e.add > e.least then f.least * e.by_ - e.add else e.least, e.add + f.add * e.by_, e.by_ * f.by_, if (e.top + f.add) / f.by_ < f.top then (e.top + f.add) / f.by_ else f.top⟩
def partE (w : WN) (n : Nat) (b : Bool) : Option E4 := if b then turnE (w.at n) w.cap else some ⟨1, w.lift, 1, w.cap⟩
def rowE (w : WN) : List Bool → Nat → E4 → Option E4
  | [], _, f => some f
  | b :: l, n, f => ((partE w n b).bind (joinE f)).bind (rowE w l (w.nxt b n))
def effE (w : WN) (l : List Bool) (n : Nat) : Option E4 := rowE w l n ⟨1, 0, 1, w.cap⟩
theorem turnE_ok {st : Int × Int} {cap : Int} {e : E4} (h1 : 1 ≤ st.1) (h2 : 0 ≤ st.2) (c : 0 ≤ cap) (h : turnE st cap = some e) : okE e cap := by
  unfold turnE at h
  split at h
  · cases h
  · cases h
    refine ⟨h1, ?_⟩
    have := Int.ediv_le_self st.1 c
    show cap / st.1 - st.2 ≤ cap
    omega
theorem joinE_ok {e f g : E4} {cap : Int} (a : okE e cap) (b : okE f cap) (h : joinE e f = some g) : okE g cap := by
  unfold joinE at h
  split at h
  · cases h
  · cases h
    refine ⟨?_, ?_⟩
    · have := a.b
      have := b.b
      show 1 ≤ e.by_ * f.by_
      exact Int.le_trans (by decide : (1 : Int) ≤ 1 * 1) (Int.mul_le_mul a.b b.b (by decide) (by omega))
    · show (if _ then _ else f.top) ≤ cap
      have := b.t
      split <;> omega
/-- a part of a row: small numbers -/
structure smE (e : E4) : Prop where
  b : 1 ≤ e.by_
  b9 : e.by_ ≤ 9
  l0 : 0 ≤ e.least
  l1 : e.least ≤ 10000000000
  a0 : -10000000000 ≤ e.add
  a1 : e.add ≤ 10000000000
theorem turnE_sm {st : Int × Int} {cap : Int} {e : E4} (o : okS st) (h : turnE st cap = some e) : smE e := by
  obtain ⟨b1, b2, t1, t2⟩ := o
  unfold turnE at h
  split at h
  · cases h
  · cases h
    have m1 : st.1 * st.2 ≤ 9 * 1000000000 := Int.mul_le_mul b2 t2 t1 (by decide)
    have m0 : 0 ≤ st.1 * st.2 := Int.mul_nonneg (by omega) t1
    have e1 : st.1 * (st.2 + 1) = st.1 * st.2 + st.1 := by rw [Int.mul_add, Int.mul_one]
    refine ⟨b1, b2, ?_, ?_, ?_, ?_⟩
    · show 0 ≤ st.1 * (st.2 + 1); omega
    · show st.1 * (st.2 + 1) ≤ _; omega
    · show _ ≤ -(st.1 * st.2); omega
    · show -(st.1 * st.2) ≤ _; omega
def EffV (H : Hp) (v : V) : Option E4 → Prop
  | none => v = .non
  | some e => ∃ t, v = .ref t ∧ H t = some (.tup [.int e.least, .int e.add, .int e.by_, .int e.top])
theorem EffV.mono {H H' : Hp} (s : Same H H') {v : V} : ∀ {o : Option E4}, EffV H v o → EffV H' v o
  | none, h => h
  | some _, ⟨t, e, h⟩ => ⟨t, e, s _ _ h⟩
section
variable {P : Program} {w : World} {K : PySem.W.Frag} {mg : Str → Option Value} {base : Heap}
def spTurnE : Sp := fun vs H Q _ => ∃ v st cap, vs = [v, .int cap] ∧ StepV H v st ∧ okS st ∧ ∀ v' H', Same H H' → EffV H' v' (turnE st cap) → Q v' H'
theorem cal_turn_effect (T : Txt K mg) : C8.Cal P w K mg base 1 "turn_effect" spTurnE [] := by
  refine calD T.f_turn_effect T.g_turn_effect sc_turn_effect (fun fd F => F.bindsN fun _ _ _ _ _ _ us hl => match us, hl with | [_, _], _ => rfl) (fun vs H Q E h => by obtain ⟨_, _, _, rfl, _⟩ := h; rfl) fun cdv A outer s H vs Q E hr h => ?_
  refine ⟨_, (pss_cons (ps_asg (pv 0) (pg_tup rfl (pgs_cons (pg_name (i := 2) sc_turn_effect.nd rfl (by first | exact Or.inl rfl | exact Or.inr rfl)) (pgs_cons (pg_name (i := 3) sc_turn_effect.nd rfl (by first | exact Or.inl rfl | exact Or.inr rfl)) pgs_nil)))) (pss_cons (ps_set (i := 4) sc_turn_effect.nd rfl (by first | exact Or.inl rfl | exact Or.inr rfl) (pe_op op_sub (pe_op op_fdiv (pv 1) (pv 2)) (pv 3))) (pss_cons (ps_if (pt_cmpR op_lt (pv 4) pe_int (nomark _)) (pss_one (ps_ret pe_non)) pss_nil) (pss_one (ps_ret (NW.pe_tupN (pa_cons (pe_op op_mul (pv 2) (pe_op op_add (pv 3) pe_int)) (pa_cons (pe_un un_neg (pe_op op_mul (pv 2) (pv 3))) (pa_cons (pv 2) (pa_cons (pv 4) pa_nil)))))))))), ?_⟩
  obtain ⟨v, st, cap, rfl, ⟨b, rfl, hb⟩, ⟨b1, b2, t1, t2⟩, q⟩ := h
  refine ⟨_, rfl, b, _, rfl, SqT.of hb, rfl, _, _, rfl, _, _, rfl, rfl, ?_⟩
  refine ⟨_, rfl, _, rfl, _, _, rfl, rfl, ⟨b1, by omega⟩, _, rfl, _, _, rfl, rfl, ?_⟩
  refine ⟨_, rfl, _, _, rfl, rfl, _, rfl, ite2 (fun c => ?_) fun c => ?_⟩
  · have c := of_decide_eq_true c
    refine q _ _ (Same.refl _) ?_
    unfold turnE
    rw [if_pos c]; rfl
  · have c : ¬ cap / st.1 - st.2 < 1 := fun z => c (decide_eq_true z)
    refine ⟨_, rfl, _, rfl, _, _, rfl, rfl, _, _, rfl, rfl, .inl ⟨by omega, by omega⟩, _, rfl, _, rfl, _, _, rfl, rfl, .inl ⟨by omega, by omega⟩, _, rfl, _, rfl, _, rfl, by show 4 ≤ sizeLine; decide, fun t H1 n1 S1 e1 => q _ _ S1 ?_⟩
    unfold turnE
    rw [if_neg c]
    exact ⟨t, rfl, e1⟩
def spJoinE : Sp := fun vs H Q _ => ∃ v1 v2 e f, vs = [v1, v2] ∧ EffV H v1 (some e) ∧ EffV H v2 (some f) ∧ smE f ∧ ∀ v' H', Same H H' → EffV H' v' (joinE e f) → Q v' H'
theorem cal_join_two (T : Txt K mg) : C8.Cal P w K mg base 1 "join_two" spJoinE [] := by
  refine calD T.f_join_two T.g_join_two sc_join_two (fun fd F => F.bindsN fun _ _ _ _ _ _ us hl => match us, hl with | [_, _], _ => rfl) (fun vs H Q E h => by obtain ⟨_, _, _, _, rfl, _⟩ := h; rfl) fun cdv A outer s H vs Q E hr h => ?_
  refine ⟨_, (pss_cons (ps_asg (pv 0) (pg_tup rfl (pgs_cons (pg_name (i := 2) sc_join_two.nd rfl (by first | exact Or.inl rfl | exact Or.inr rfl)) (pgs_cons (pg_name (i := 3) sc_join_two.nd rfl (by first | exact Or.inl rfl | exact Or.inr rfl)) (pgs_cons (pg_name (i := 4) sc_join_two.nd rfl (by first | exact Or.inl rfl | exact Or.inr rfl)) (pgs_cons (pg_name (i := 5) sc_join_two.nd rfl (by first | exact Or.inl rfl | exact Or.inr rfl)) pgs_nil)))))) (pss_cons (ps_asg (pv 1) (pg_tup rfl (pgs_cons (pg_name (i := 6) sc_join_two.nd rfl (by first | exact Or.inl rfl | exact Or.inr rfl)) (pgs_cons (pg_name (i := 7) sc_join_two.nd rfl (by first | exact Or.inl rfl | exact Or.inr rfl)) (pgs_cons (pg_name (i := 8) sc_join_two.nd rfl (by first | exact Or.inl rfl | exact Or.inr rfl)) (pgs_cons (pg_name (i := 9) sc_join_two.nd rfl (by first | exact Or.inl rfl | exact Or.inr rfl)) pgs_nil)))))) (pss_cons (ps_if (pt_cmpR op_lt (pv 5) (pv 6) (nomark _)) (pss_one (ps_ret pe_non)) pss_nil) (pss_cons (ps_set (i := 2) sc_join_two.nd rfl (by first | exact Or.inl rfl | exact Or.inr rfl) (pe_callB (call_max2 rfl) (by rfl) T.b_max (by decide +kernel) (pa_cons (pv 2) (pa_cons (pe_op op_sub (pe_op op_mul (pv 6) (pv 4)) (pv 3)) pa_nil)))) (pss_one (ps_ret (NW.pe_tupN (pa_cons (pv 2) (pa_cons (pe_op op_add (pv 3) (pe_op op_mul (pv 7) (pv 4))) (pa_cons (pe_op op_mul (pv 4) (pv 8)) (pa_cons (pe_callB (call_min2 rfl) (by rfl) T.b_min (by decide +kernel) (pa_cons (pv 9) (pa_cons (pe_op op_fdiv (pe_op op_add (pv 5) (pv 7)) (pv 8)) pa_nil))) pa_nil))))))))))), ?_⟩
  obtain ⟨v1, v2, e, f, rfl, ⟨a, rfl, ha⟩, ⟨b, rfl, hb⟩, sm, q⟩ := h
  obtain ⟨f1, f2, f3, f4, f5, f6⟩ := sm
  refine ⟨_, rfl, a, _, rfl, SqT.of ha, rfl, _, _, rfl, _, _, rfl, _, _, rfl, _, _, rfl, rfl, ?_⟩
  refine ⟨_, rfl, b, _, rfl, SqT.of hb, rfl, _, _, rfl, _, _, rfl, _, _, rfl, _, _, rfl, rfl, ?_⟩
  refine ⟨_, rfl, _, rfl, _, _, rfl, rfl, _, rfl, ite2 (fun c => ?_) fun c => ?_⟩
  · have c := of_decide_eq_true c
    refine q _ _ (Same.refl _) ?_
    unfold joinE
    rw [if_pos c]; rfl
  · have c : ¬ e.top < f.least := fun z => c (decide_eq_true z)
    refine ⟨_, rfl, _, rfl, _, rfl, _, _, rfl, rfl, .inl ⟨by omega, by omega⟩, _, rfl, _, _, rfl, rfl, _, _, rfl, ?_⟩
    refine ⟨_, rfl, _, rfl, _, rfl, _, rfl, _, _, rfl, rfl, .inl ⟨by omega, by omega⟩, _, _, rfl, rfl, _, rfl, _, rfl, _, _, rfl, rfl, .inr ⟨by omega, by omega⟩, ?_⟩
    refine ⟨_, rfl, _, rfl, _, rfl, _, _, rfl, rfl, _, rfl, _, _, rfl, rfl, ⟨by omega, by omega⟩, _, _, rfl, by show 4 ≤ sizeLine; decide, fun t H1 n1 S1 e1 => q _ _ S1 ?_⟩
    unfold joinE
    rw [if_neg c]
    exact ⟨t, rfl, e1⟩
end
end WH

set_option maxHeartbeats 4000000
namespace WH
open PySem PySem.Spec PyProof.Rows L2
section
variable {P : Program} {w : World} {K : PySem.W.Frag} {mg : Str → Option Value} {base : Heap}
theorem partE_sm {w : WN} (ok : okW w) {n : Nat} {b : Bool} {e : E4} (h : partE w n b = some e) : smE e := by
  cases b with
  | true => exact turnE_sm (ok.at n) h
  | false =>
    cases h
    have := ok.l1
    have := ok.l2
    exact ⟨by show (1 : Int) ≤ 1; decide, by show (1 : Int) ≤ 9; decide, by show (0 : Int) ≤ 1; decide, by show (1 : Int) ≤ _; decide, by show _ ≤ w.lift; omega, by show w.lift ≤ _; omega⟩
def spRowE (K : PySem.W.Frag) : Sp := fun vs H Q _ => ∃ a w l n, vs = [.ref a, .str (rowS l), .int (n : Nat)] ∧ WaneAt K H a w ∧ ∀ v' H', Same H H' → EffV H' v' (effE w l n) → Q v' H'
theorem cal_row_effect (T : Txt K mg) : C8.Cal P w K mg base 2 "row_effect" (spRowE K) [] := by
  refine calD T.f_row_effect T.g_row_effect sc_row_effect (fun fd F => F.bindsN fun _ _ _ _ _ _ us hl => match us, hl with | [_, _, _], _ => rfl) (fun vs H Q E h => by obtain ⟨_, _, _, _, rfl, _⟩ := h; rfl) fun cdv A outer s H vs Q E hr h => ?_
  refine ⟨_, (pss_cons (ps_set (i := 3) sc_row_effect.nd rfl (by first | exact Or.inl rfl | exact Or.inr rfl) (C8.pe_mt0 (met_Wane_cap T) hr (by decide) (pv 0))) (pss_cons (ps_set (i := 4) sc_row_effect.nd rfl (by first | exact Or.inl rfl | exact Or.inr rfl) (NW.pe_tupN (pa_cons pe_int (pa_cons (C8.pe_mt0 (met_Wane_lift T) hr (by decide) (pv 0)) (pa_cons pe_int (pa_cons (pv 3) pa_nil)))))) (pss_cons (ps_set (i := 5) sc_row_effect.nd rfl (by first | exact Or.inl rfl | exact Or.inr rfl) (NW.pe_tupN (pa_cons pe_int (pa_cons pe_int (pa_cons pe_int (pa_cons (pv 3) pa_nil)))))) (pss_cons (ps_for PassesOwn.never rfl (pi_str (pv 1)) (pg_name (i := 6) sc_row_effect.nd rfl (by first | exact Or.inl rfl | exact Or.inr rfl)) (C8.pss_cut (ps_if (pt_cmpR op_eq (pv 6) pe_str (nomark _)) (pss_cons (ps_set (i := 7) sc_row_effect.nd rfl (by first | exact Or.inl rfl | exact Or.inr rfl) (pv 4)) (pss_one (ps_if (pt_val (C8.pe_mt0 (met_Wane_is_anew T) hr (by decide) (pv 0))) (pss_one (ps_set (i := 2) sc_row_effect.nd rfl (by first | exact Or.inl rfl | exact Or.inr rfl) pe_int)) pss_nil))) (pss_cons (ps_set (i := 7) sc_row_effect.nd rfl (by first | exact Or.inl rfl | exact Or.inr rfl) (C8.pe_c (cal_turn_effect T) hr (by decide) rfl (pa_cons (C8.pe_mt (met_Wane_coming T) hr (by decide) (pv 0) (pa_cons (pv 2) pa_nil)) (pa_cons (pv 3) pa_nil)))) (pss_one (ps_aug (i := 2) sc_row_effect.nd rfl (by first | exact Or.inl rfl | exact Or.inr rfl) pe_int ip_add)))) (C8.pss_cut (ps_if (pt_cmpR op_notN (pv 7) pe_non (nomark _)) (pss_one (ps_set (i := 7) sc_row_effect.nd rfl (by first | exact Or.inl rfl | exact Or.inr rfl) (C8.pe_c (cal_join_two T) hr (by decide) rfl (pa_cons (pv 5) (pa_cons (pv 7) pa_nil))))) pss_nil) (pss_cons (ps_if (pt_cmpR op_isN (pv 7) pe_non (nomark _)) (pss_one (ps_ret pe_non)) pss_nil) (pss_one (ps_set (i := 5) sc_row_effect.nd rfl (by first | exact Or.inl rfl | exact Or.inr rfl) (pv 7))))))) (pss_one (ps_ret (pv 5))))))), ?_⟩
  obtain ⟨a, w, l, n, rfl, hw, q⟩ := h
  obtain ⟨dx, hh, ht, ea, _, _, ok⟩ := id hw
  refine ⟨_, rfl, a, dx, _, rfl, ea, by kernel_rfl, a, w, rfl, hw, ?_⟩
  refine ⟨_, rfl, a, dx, _, rfl, ea, by kernel_rfl, a, w, rfl, hw, _, rfl, by show 4 ≤ sizeLine; decide, fun ta H1 n1 S1 e1 => ?_⟩
  refine ⟨_, rfl, by show 4 ≤ sizeLine; decide, fun t0 H2 n2 S2 e2 => ⟨_, rfl, ?_⟩⟩
  have S02 := S1.trans S2
  refine ⟨_, rfl, for_it walk_str (fun i σ H' => Same H2 H' ∧ ∃ n' e fv o6 o7, effE w l n = rowE w (l.drop i) n' e ∧ EffV H' fv (some e) ∧ σ = [some (.ref a), some (.str (rowS l)), some (.int (n' : Nat)), some (.int w.cap), some (.ref ta), some fv, o6, o7])
    ⟨Same.refl _, n, ⟨1, 0, 1, w.cap⟩, .ref t0, _, _, by rw [List.drop_zero]; rfl, ⟨t0, rfl, e2⟩, rfl⟩ (fun _ _ _ _ _ => trivial) ?_ ?_⟩
  · rintro i x σ H3 H4 hi ⟨S3, n', e, fv, o6, o7, er, hf, rfl⟩ ⟨rfl, c, hc, rfl⟩
    obtain ⟨b, hb, es⟩ := sgn_of hc
    rw [es]
    have S24 := S02.trans S3
    have hw4 := hw.mono S24
    have ea4 := S24 _ _ ea
    have dr : l.drop i = b :: l.drop (i + 1) := by
      rw [List.drop_eq_getElem_cons (List.getElem?_eq_some_iff.mp hb).1]
      rw [(List.getElem?_eq_some_iff.mp hb).2]
    refine ⟨fun σ H' => ∃ pv, Same H4 H' ∧ EffV H' pv (partE w n' b) ∧ σ = [some (.ref a), some (.str (rowS l)), some (.int (w.nxt b n' : Nat)), some (.int w.cap), some (.ref ta), some fv, some (.str (sgn b)), some pv], ?_, ?_⟩
    · refine ⟨_, rfl, rfl, _, rfl, ?_⟩
      rw [sgn_a]
      cases b with
      | true =>
        refine iteF ⟨_, rfl, a, dx, _, rfl, ea4, by kernel_rfl, _, rfl, a, w, n', rfl, hw4, fun v hv => ⟨_, rfl, v, w.at n', w.cap, rfl, hv, ok.at n', fun pv H5 S5 hp => ?_⟩⟩
        refine ⟨_, rfl, _, _, rfl, rfl, pv, S5, hp, ?_⟩
        rfl
      | false =>
        refine iteT ⟨_, rfl, _, rfl, a, dx, _, rfl, ea4, by kernel_rfl, a, w, rfl, hw4, _, rfl, ?_⟩
        have hp : EffV H4 (.ref ta) (partE w n' false) := ⟨ta, rfl, S3 _ _ (S2 _ _ e1)⟩
        cases en : w.anew with
        | true => exact iteT ⟨.ref ta, Same.refl _, hp, by simp [WN.nxt, en]⟩
        | false => exact iteF ⟨.ref ta, Same.refl _, hp, by simp [WN.nxt, en]⟩
    rintro σ H5 ⟨pv, S5, hp, rfl⟩
    have hf5 := hf.mono S5
    rw [dr] at er
    refine ⟨fun σ H' => ∃ pv, Same H5 H' ∧ EffV H' pv ((partE w n' b).bind (joinE e)) ∧ σ = [some (.ref a), some (.str (rowS l)), some (.int (w.nxt b n' : Nat)), some (.int w.cap), some (.ref ta), some fv, some (.str (sgn b)), some pv], ?_, ?_⟩
    · cases hpe : partE w n' b with
      | none =>
        rw [hpe] at hp
        obtain rfl : pv = .non := hp
        exact ⟨_, rfl, rfl, _, rfl, iteF ⟨.non, Same.refl _, rfl, rfl⟩⟩
      | some f =>
        rw [hpe] at hp
        obtain ⟨tp, rfl, hp⟩ := hp
        refine ⟨_, rfl, rfl, _, rfl, iteT ⟨_, rfl, _, rfl, fv, .ref tp, e, f, rfl, hf5, ⟨tp, rfl, hp⟩, partE_sm ok hpe, fun pv H6 S6 hj => ⟨pv, S6, hj, rfl⟩⟩⟩
    rintro σ H6 ⟨pv, S6, hp, rfl⟩
    have er : effE w l n = ((partE w n' b).bind (joinE e)).bind (rowE w (l.drop (i + 1)) (w.nxt b n')) := er
    cases hj : (partE w n' b).bind (joinE e) with
    | none =>
      rw [hj] at hp er
      obtain rfl : pv = .non := hp
      exact ⟨_, rfl, rfl, _, rfl, iteT (q _ _ ((S24.trans S5).trans S6) (by rw [er]; rfl))⟩
    | some g =>
      rw [hj] at hp er
      obtain ⟨tp, rfl, hp⟩ := hp
      exact ⟨_, rfl, rfl, _, rfl, iteF ⟨_, rfl, (S3.trans S5).trans S6, _, g, .ref tp, _, _, er, ⟨tp, rfl, hp⟩, rfl⟩⟩
  · rintro σ H3 ⟨S3, n', e, fv, o6, o7, er, hf, rfl⟩
    have e0 : (rowS l).cps.size = l.length := by simp [rowS, SX.S]
    rw [e0, List.drop_length] at er
    exact ⟨_, rfl, q _ _ (S02.trans S3) (by rw [er]; exact hf)⟩
def spEff (K : PySem.W.Frag) : Sp := fun vs H Q _ => ∃ a w l n, vs = [.ref a, .str (rowS l), .int (n : Nat)] ∧ WaneAt K H a w ∧ l.length ≤ 200 ∧ (n : Int) ≤ 1000000000000000000000000000000 ∧ ∀ v' H', Same H H' → EffV H' v' (effE w l n) → Q v' H'
theorem fn_effect_of (T : Txt K mg) {fd : FuncData} (F : FD K d_effect_of fd) : FnOk P w K mg base (L2.CX P w) 4 (He.fAd K d_effect_of.at_) fd ["wane", "row", "since"] (spEff K) := by
  refine F.ok sc_effect_of (fun vs H Q E h => by obtain ⟨_, _, _, _, rfl, _⟩ := h; rfl) fun cdv A outer s H vs Q E hr h => ?_
  obtain ⟨a, w, l, n, rfl, hw, hl, hn, q⟩ := h
  refine ⟨_, (pss_cons (ps_if (pt_not (pt_val (pe_callB call_isi (by rfl) T.b_isinstance (by decide +kernel) (pa_cons (pv 0) (pa_cons (C8.pe_gc (v := .ref (He.ga K "Wane")) rfl ⟨_, T.g_Wane, rfl⟩) pa_nil))))) (pss_one ps_never) pss_nil) (pss_cons (ps_if (pt_not (pt_val (C8.pe_c (cal_is_row T) hr (by decide) rfl (pa_cons (pv 1) pa_nil)))) (pss_one ps_never) pss_nil) (pss_cons (ps_if (pt_not (pt_val (C8.pe_c (cal_is_moment T) hr (by decide) rfl (pa_cons (pv 2) pa_nil)))) (pss_one ps_never) pss_nil) (pss_one (ps_ret (C8.pe_c (cal_row_effect T) hr (by decide) rfl (pa_cons (pv 0) (pa_cons (pv 1) (pa_cons (pv 2) pa_nil))))))))), ?_⟩
  refine ⟨_, rfl, _, _, .ref (cW K), _, _, rfl, .own _, knw_wane T hw, T.kit (by simp [tys]) (by simp [cls]), _, rfl, ?_⟩
  rw [show isk (.ref (cW K)) (.ref (cW K)) = true by simp [isk]]
  refine iteF ⟨_, rfl, l, rfl, hl, fun H1 S1 => ⟨_, rfl, iteF ?_⟩⟩
  refine ⟨_, rfl, _, rfl, knw_int _, _, rfl, ?_⟩
  rw [wi_int (by omega) hn]
  exact iteF ⟨_, rfl, _, rfl, _, rfl, a, w, l, n, rfl, hw.mono S1, fun v' H' S' e => q v' H' (S1.trans S') e⟩
theorem call_effect_of (T : Txt K mg) : ∃ fd g, FnOk P w K mg base (L2.CX P w) 4 (He.fAd K d_effect_of.at_) fd ["wane", "row", "since"] (spEff K) ∧ KBn K fd ["wane", "row", "since"] 2 ["since"] g (fun vs zs => vs ++ zs) ∧ PySem.W.keepIn K (.ref (He.fAd K d_effect_of.at_)) = true := by
  obtain ⟨fd, F⟩ := T.f_effect_of
  obtain ⟨mv, b⟩ := F.kbinds0 (ps := ["wane", "row", "since"]) 2 ["since"] [] (fun us _ ws => us ++ ws) (by simp [He.DefD.kws, d_effect_of]) (by simp) (fun r1 r2 r3 => ND.paired_app r1 r3) (fun D doc pm an cdv ct us mv ws l1 l2 l3 => by
    match us, ws, l1, l3 with
    | [_, _], [_], _, _ => rfl)
  exact ⟨fd, _, fn_effect_of T F, b, F.kp⟩
end
end WH

set_option maxHeartbeats 4000000
namespace WH
open PySem PySem.Spec PyProof.Rows L2
/-! ### parts and spans -/
inductive Seen where
  | non
  | there
  | num (n : Int)
def SeenV (v : V) : Seen → Prop
  | .non => v = .non
  | .there => v = .str "there"
  | .num n => v = .int n ∧ 0 ≤ n ∧ n ≤ 1000000000
abbrev Span := Option (Int × Int)
def SpanV (H : Hp) (v : V) : Span → Prop
  | none => v = .non
  | some p => ∃ t, v = .ref t ∧ H t = some (.tup [.int p.1, .int p.2])
theorem SpanV.tup {H H' : Hp} (s : Tup H H') {v : V} : ∀ {o : Span}, SpanV H v o → SpanV H' v o
  | none, h => h
  | some _, ⟨t, e, h⟩ => ⟨t, e, s _ _ h⟩
structure Part where
  w : WN
  row : List Bool
  since : Nat
  low : Int
  high : Int
  seen : Seen
structure okPt (p : Part) : Prop where
  l : p.row.length ≤ 200
  n : (p.since : Int) ≤ 1000000000000000000000000000000
  l1 : 1 ≤ p.low
  lh : p.low ≤ p.high
  hc : p.high ≤ p.w.cap
def PartV (K : PySem.W.Frag) (H : Hp) (v : V) (p : Part) : Prop := ∃ t a sv, v = .ref t ∧ H t = some (.tup [.ref a, .str (rowS p.row), .int (p.since : Nat), .int p.low, .int p.high, sv]) ∧ WaneAt K H a p.w ∧ SeenV sv p.seen ∧ okPt p
theorem PartV.mono {K : PySem.W.Frag} {H H' : Hp} (s : Same H H') {v : V} {p : Part} : PartV K H v p → PartV K H' v p := fun ⟨t, a, sv, e, h, hw, hs, ok⟩ => ⟨t, a, sv, e, s _ _ h, hw.mono s, hs, ok⟩
def cutP (l g : Int) : Span := if l > g then none else some (l, g)
def mn (a b : Int) : Int := if b < a then b else a
def mx (a b : Int) : Int := if b > a then b else a
def spanE (p : Part) (e : Option E4) : Span := match p.seen, e with
  | .non, _ => some (p.low, p.high)
  | .num n, none => if n = 0 then some (p.low, p.high) else none
  | .there, none => none
  | .there, some e => cutP (mx p.low e.least) p.high
  | .num n, some e => if n = 0 then cutP p.low (mn p.high (e.least - 1)) else if n > e.top then none else cutP (mx (mx p.low e.least) (e.by_ * n - e.add)) (if n < e.top then mn p.high (e.by_ * n - e.add + e.by_ - 1) else p.high)
def spanP (p : Part) : Span := spanE p (effE p.w p.row p.since)
def widthP : Span → Int
  | none => 0
  | some p => p.2 - p.1 + 1
section
variable {P : Program} {w : World} {K : PySem.W.Frag} {mg : Str → Option Value} {base : Heap}
def seenB : V → Bool
  | .non => true
  | .str x => decide (V.str x = V.str "there")
  | .int n => decide (n = 0) || (decide (1 ≤ n) && decide (n ≤ 1000000000))
  | _ => false
def spSeen (K : PySem.W.Frag) : Sp := fun vs H Q _ => ∃ v s, vs = [v] ∧ SeenV v s ∧ Q (.bl true) H
theorem cal_is_seen (T : Txt K mg) : C8.Cal P w K mg base 4 "is_seen" (spSeen K) [] := by
  refine calD T.f_is_seen T.g_is_seen sc_is_seen (fun fd F => F.bindsN fun _ _ _ _ _ _ us hl => match us, hl with | [_], _ => rfl) (fun vs H Q E h => by obtain ⟨_, _, rfl, _⟩ := h; rfl) fun cdv A outer s H vs Q E hr h => ?_
  refine ⟨_, (pss_cons (ps_if (PW.pt (pw_or (pt_cmpR op_isN (pv 0) pe_non (nomark _)) (pw_or1 (pt_val (pe_callB call_isi (by rfl) T.b_isinstance (by decide +kernel) (pa_cons (pv 0) (pa_cons (pe_bltn (v := .ty "str") (by rfl) T.b_str (by decide +kernel) rfl) pa_nil))))))) (pss_one (ps_ret (pe_or (pe_cmpR op_isN (pv 0) pe_non (nomark _)) (pe_one (pe_cmpR op_eq (pv 0) (C8.pe_gc rfl T.c_THERE) (nomark _)))))) pss_nil) (pss_one (ps_ret (pe_and (C8.pe_c (cal_is_whole T) hr (by decide) rfl (pa_cons (pv 0) pa_nil)) (pe_one (pe_or (pe_cmpR op_eq (pv 0) pe_int (nomark _)) (pe_one (C8.pe_c (cal_is_strength T) hr (by decide) rfl (pa_cons (pv 0) pa_nil))))))))), ?_⟩
  obtain ⟨v, s, rfl, hs, q⟩ := h
  cases s with
  | non =>
    obtain rfl : v = .non := hs
    exact ⟨_, rfl, rfl, _, rfl, iteT (iteT ⟨_, rfl, rfl, _, rfl, iteT q⟩)⟩
  | there =>
    obtain rfl : v = .str "there" := hs
    refine ⟨_, rfl, rfl, _, rfl, iteF ⟨_, rfl, _, _, .type "str", _, _, rfl, .ty _, .base (.str _), T.kit (by simp [tys]) (by simp [cls]), _, rfl, ?_⟩⟩
    exact iteT ⟨_, rfl, rfl, _, rfl, iteF ⟨_, rfl, rfl, q⟩⟩
  | num n =>
    obtain ⟨rfl, n0, n1⟩ := hs
    refine ⟨_, rfl, rfl, _, rfl, iteF ⟨_, rfl, _, _, .type "int", _, _, rfl, .ty _, .base (.int _), T.kit (by simp [tys]) (by simp [cls]), _, rfl, ?_⟩⟩
    refine iteF ⟨_, rfl, _, rfl, knw_int _, _, rfl, iteT ⟨_, rfl, rfl, _, rfl, ite2 (fun c => ?_) fun c => ?_⟩⟩
    · exact q
    · have c : ¬ n = 0 := by simpa using c
      refine ⟨_, rfl, _, rfl, knw_int _, ?_⟩
      rw [wi_int (by omega) n1]
      exact q
theorem nuMax2_int (a b : Int) : nuMax2 (.int a) (.int b) = some (.int (mx a b)) := by
  show some (if decide (a < b) = true then V.int b else V.int a) = some (.int (if b > a then b else a))
  by_cases h : a < b
  · rw [if_pos (decide_eq_true h), if_pos h]
  · rw [if_neg (by simpa using h), if_neg h]
theorem nuMax3_int (a b c : Int) : nuMax3 (.int a) (.int b) (.int c) = some (.int (mx (mx a b) c)) := by
  unfold nuMax3
  rw [nuMax2_int]
  exact nuMax2_int _ _
theorem iteT_of {c : Bool} {A B : Prop} (h : c = true) (a : A) : if c = true then A else B := by rw [h]; exact a
theorem iteF_of {c : Bool} {A B : Prop} (h : c = false) (b : B) : if c = true then A else B := by rw [h]; exact b
def spCut : Sp := fun vs H Q _ => ∃ l g, vs = [.int l, .int g] ∧ ∀ v H', Same H H' → SpanV H' v (cutP l g) → Q v H'
theorem cal_cut (T : Txt K mg) : C8.Cal P w K mg base 1 "cut" spCut [] := by
  refine calD T.f_cut T.g_cut sc_cut (fun fd F => F.bindsN fun _ _ _ _ _ _ us hl => match us, hl with | [_, _], _ => rfl) (fun vs H Q E h => by obtain ⟨_, _, rfl, _⟩ := h; rfl) fun cdv A outer s H vs Q E hr h => ?_
  refine ⟨_, (pss_cons (ps_if (pt_cmpR op_gt (pv 0) (pv 1) (nomark _)) (pss_one (ps_ret pe_non)) pss_nil) (pss_one (ps_ret (NW.pe_tupN (pa_cons (pv 0) (pa_cons (pv 1) pa_nil)))))), ?_⟩
  obtain ⟨l, g, rfl, q⟩ := h
  refine ⟨_, rfl, _, rfl, _, _, rfl, rfl, _, rfl, ite2 (fun c => ?_) fun c => ?_⟩
  · have c : g < l := of_decide_eq_true c
    refine q _ _ (Same.refl _) ?_
    unfold cutP
    rw [if_pos c]; rfl
  · have c : ¬ g < l := fun z => c (decide_eq_true z)
    refine ⟨_, rfl, _, rfl, by show 2 ≤ sizeLine; decide, fun t H1 n1 S1 e1 => q _ _ S1 ?_⟩
    unfold cutP
    rw [if_neg c]; exact ⟨t, rfl, e1⟩
def spWidth : Sp := fun vs H Q _ => ∃ v o, vs = [v] ∧ SpanV H v o ∧ Q (.int (widthP o)) H
theorem cal_width (T : Txt K mg) : C8.Cal P w K mg base 1 "width" spWidth [] := by
  refine calD T.f_width T.g_width sc_width (fun fd F => F.bindsN fun _ _ _ _ _ _ us hl => match us, hl with | [_], _ => rfl) (fun vs H Q E h => by obtain ⟨_, _, rfl, _⟩ := h; rfl) fun cdv A outer s H vs Q E hr h => ?_
  refine ⟨_, (pss_cons (ps_if (pt_cmpR op_isN (pv 0) pe_non (nomark _)) (pss_one (ps_ret pe_int)) pss_nil) (pss_one (ps_ret (pe_op op_add (pe_op op_sub (pe_ix ix_tup (pv 0) pe_int (fun _ _ => rfl)) (pe_ix ix_tup (pv 0) pe_int (fun _ _ => rfl))) pe_int)))), ?_⟩
  obtain ⟨v, o, rfl, hv, q⟩ := h
  cases o with
  | none =>
    obtain rfl : v = .non := hv
    exact ⟨_, rfl, rfl, _, rfl, iteT q⟩
  | some p =>
    obtain ⟨t, rfl, ht⟩ := hv
    refine ⟨_, rfl, rfl, _, rfl, iteF ?_⟩
    exact ⟨_, rfl, t, _, _, _, rfl, rfl, SqT.of ht, rfl, _, rfl, t, _, _, _, rfl, rfl, SqT.of ht, rfl, _, _, rfl, rfl, _, _, rfl, rfl, q⟩
def spSpanOf (K : PySem.W.Frag) : Sp := fun vs H Q _ => ∃ v p, vs = [v] ∧ PartV K H v p ∧ ∀ v' H', Same H H' → SpanV H' v' (spanP p) → Q v' H'
theorem cal_span_of (T : Txt K mg) : C8.Cal P w K mg base 5 "span_of" (spSpanOf K) [] := by
  refine calD T.f_span_of T.g_span_of sc_span_of (fun fd F => F.bindsN fun _ _ _ _ _ _ us hl => match us, hl with | [_], _ => rfl) (fun vs H Q E h => by obtain ⟨_, _, rfl, _⟩ := h; rfl) fun cdv A outer s H vs Q E hr h => ?_
  refine ⟨_, (C8.pss_cut (ps_asg (pv 0) (pg_tup rfl (pgs_cons (pg_name (i := 1) sc_span_of.nd rfl (by first | exact Or.inl rfl | exact Or.inr rfl)) (pgs_cons (pg_name (i := 2) sc_span_of.nd rfl (by first | exact Or.inl rfl | exact Or.inr rfl)) (pgs_cons (pg_name (i := 3) sc_span_of.nd rfl (by first | exact Or.inl rfl | exact Or.inr rfl)) (pgs_cons (pg_name (i := 4) sc_span_of.nd rfl (by first | exact Or.inl rfl | exact Or.inr rfl)) (pgs_cons (pg_name (i := 5) sc_span_of.nd rfl (by first | exact Or.inl rfl | exact Or.inr rfl)) (pgs_cons (pg_name (i := 6) sc_span_of.nd rfl (by first | exact Or.inl rfl | exact Or.inr rfl)) pgs_nil)))))))) (pss_cons (ps_if (pt_cmpR op_isN (pv 6) pe_non (nomark _)) (pss_one (ps_ret (NW.pe_tupN (pa_cons (pv 4) (pa_cons (pv 5) pa_nil))))) pss_nil) (C8.pss_cut (ps_set (i := 7) sc_span_of.nd rfl (by first | exact Or.inl rfl | exact Or.inr rfl) (pe_cNS (call_effect_of T) hr (by decide) rfl T.g_effect_of (fun σ => pass0At σ) (pa_cons (pv 1) (pa_cons (pv 2) pa_nil)) (pk_cons (pv 3) pk_nil))) (pss_cons (ps_if (pt_cmpR op_isN (pv 7) pe_non (nomark _)) (pss_one (ps_ret (pe_ifExp (pt_cmpR op_eq (pv 6) pe_int (nomark _)) (NW.pe_tupN (pa_cons (pv 4) (pa_cons (pv 5) pa_nil))) pe_non))) pss_nil) (C8.pss_cut (ps_asg (pv 7) (pg_tup rfl (pgs_cons (pg_name (i := 8) sc_span_of.nd rfl (by first | exact Or.inl rfl | exact Or.inr rfl)) (pgs_cons (pg_name (i := 9) sc_span_of.nd rfl (by first | exact Or.inl rfl | exact Or.inr rfl)) (pgs_cons (pg_name (i := 10) sc_span_of.nd rfl (by first | exact Or.inl rfl | exact Or.inr rfl)) (pgs_cons (pg_name (i := 11) sc_span_of.nd rfl (by first | exact Or.inl rfl | exact Or.inr rfl)) pgs_nil)))))) (pss_cons (ps_if (pt_cmpR op_eq (pv 6) pe_int (nomark _)) (pss_one (ps_ret (C8.pe_c (cal_cut T) hr (by decide) rfl (pa_cons (pv 4) (pa_cons (pe_callB (call_min2 rfl) (by rfl) T.b_min (by decide +kernel) (pa_cons (pv 5) (pa_cons (pe_op op_sub (pv 8) pe_int) pa_nil))) pa_nil))))) pss_nil) (pss_cons (ps_if (pt_cmpR op_eq (pv 6) (C8.pe_gc rfl T.c_THERE) (nomark _)) (pss_one (ps_ret (C8.pe_c (cal_cut T) hr (by decide) rfl (pa_cons (pe_callB (call_max2 rfl) (by rfl) T.b_max (by decide +kernel) (pa_cons (pv 4) (pa_cons (pv 8) pa_nil))) (pa_cons (pv 5) pa_nil))))) pss_nil) (pss_cons (ps_if (pt_cmpR op_gt (pv 6) (pv 11) (nomark _)) (pss_one (ps_ret pe_non)) pss_nil) (C8.pss_cut (ps_set (i := 12) sc_span_of.nd rfl (by first | exact Or.inl rfl | exact Or.inr rfl) (pe_op op_sub (pe_op op_mul (pv 10) (pv 6)) (pv 9))) (pss_cons (ps_set (i := 13) sc_span_of.nd rfl (by first | exact Or.inl rfl | exact Or.inr rfl) (pv 5)) (C8.pss_cut (ps_if (pt_cmpR op_lt (pv 6) (pv 11) (nomark _)) (pss_one (ps_set (i := 13) sc_span_of.nd rfl (by first | exact Or.inl rfl | exact Or.inr rfl) (pe_callB (call_min2 rfl) (by rfl) T.b_min (by decide +kernel) (pa_cons (pv 5) (pa_cons (pe_op op_sub (pe_op op_add (pv 12) (pv 10)) pe_int) pa_nil))))) pss_nil) (pss_one (ps_ret (C8.pe_c (cal_cut T) hr (by decide) rfl (pa_cons (pe_callB (call_max3Nu rfl) (by rfl) T.b_max (by decide +kernel) (pa_cons (pv 4) (pa_cons (pv 8) (pa_cons (pv 12) pa_nil)))) (pa_cons (pv 13) pa_nil)))))))))))))))), ?_⟩
  obtain ⟨v, p, rfl, ⟨t, a, sv, rfl, ht, hw, hs, ok⟩, q⟩ := h
  have fin : ∀ {v' : V} {H' : Hp} {o : Span}, Same H H' → SpanV H' v' o → spanP p = o → Q v' H' := fun S h e => q _ _ S (by rw [e]; exact h)
  have eff : ∀ {R : VK}, (∀ v' H', Same H H' → EffV H' v' (effE p.w p.row p.since) → R v' H') → spEff K ([V.ref a, .str (rowS p.row)] ++ [.int (p.since : Nat)]) H R C8.E0 := fun h => ⟨a, p.w, p.row, p.since, rfl, hw, ok.l, ok.n, h⟩
  refine ⟨fun σ H' => H' = H ∧ σ = [some (.ref t), some (.ref a), some (.str (rowS p.row)), some (.int (p.since : Nat)), some (.int p.low), some (.int p.high), some sv, none, none, none, none, none, none, none], ?_, ?_⟩
  · exact ⟨_, rfl, t, _, rfl, SqT.of ht, rfl, _, _, rfl, _, _, rfl, _, _, rfl, _, _, rfl, _, _, rfl, _, _, rfl, rfl, rfl, rfl⟩
  rintro σ H' ⟨rfl, rfl⟩
  cases hse : p.seen with
  | non =>
    rw [hse] at hs
    obtain rfl : sv = .non := hs
    refine ⟨_, rfl, rfl, _, rfl, iteT ⟨_, rfl, _, rfl, by show 2 ≤ sizeLine; decide, fun t H1 n1 S1 e1 => fin (o := some (p.low, p.high)) S1 ⟨t, rfl, e1⟩ ?_⟩⟩
    unfold spanP spanE
    rw [hse]
  | there =>
    rw [hse] at hs
    obtain rfl : sv = .str "there" := hs
    refine ⟨_, rfl, rfl, _, rfl, iteF ?_⟩
    refine ⟨fun σ H1 => ∃ ev, Same H' H1 ∧ EffV H1 ev (effE p.w p.row p.since) ∧ σ = [some (.ref t), some (.ref a), some (.str (rowS p.row)), some (.int (p.since : Nat)), some (.int p.low), some (.int p.high), some (.str "there"), some ev, none, none, none, none, none, none], ?_, ?_⟩
    · exact ⟨_, rfl, _, rfl, _, rfl, rfl, rfl, eff fun ev H1 S1 he => ⟨ev, S1, he, rfl⟩⟩
    rintro σ H1 ⟨ev, S1, he, rfl⟩
    cases hef : effE p.w p.row p.since with
    | none =>
      rw [hef] at he
      obtain rfl : ev = .non := he
      refine ⟨_, rfl, rfl, _, rfl, iteT ⟨_, rfl, rfl, _, rfl, iteF_of (by decide +kernel) (fin (o := none) S1 rfl ?_)⟩⟩
      unfold spanP spanE
      rw [hse, hef]
    | some e =>
      rw [hef] at he
      obtain ⟨te, rfl, hte⟩ := he
      refine ⟨_, rfl, rfl, _, rfl, iteF ?_⟩
      refine ⟨fun σ H2 => H2 = H1 ∧ σ = [some (.ref t), some (.ref a), some (.str (rowS p.row)), some (.int (p.since : Nat)), some (.int p.low), some (.int p.high), some (.str "there"), some (.ref te), some (.int e.least), some (.int e.add), some (.int e.by_), some (.int e.top), none, none], ?_, ?_⟩
      · exact ⟨_, rfl, te, _, rfl, SqT.of hte, rfl, _, _, rfl, _, _, rfl, _, _, rfl, _, _, rfl, rfl, rfl, rfl⟩
      rintro σ H2 ⟨rfl, rfl⟩
      refine ⟨_, rfl, rfl, _, rfl, iteF_of (by decide +kernel) ⟨_, rfl, rfl, _, rfl, iteT_of (by decide +kernel) ?_⟩⟩
      refine ⟨_, rfl, _, rfl, _, _, rfl, _, rfl, _, _, rfl, fun v' H' S' h => fin (S1.trans S') h ?_⟩
      unfold spanP spanE
      rw [hse, hef]; rfl
  | num n =>
    rw [hse] at hs
    obtain ⟨rfl, n0, n1⟩ := hs
    refine ⟨_, rfl, rfl, _, rfl, iteF ?_⟩
    refine ⟨fun σ H1 => ∃ ev, Same H' H1 ∧ EffV H1 ev (effE p.w p.row p.since) ∧ σ = [some (.ref t), some (.ref a), some (.str (rowS p.row)), some (.int (p.since : Nat)), some (.int p.low), some (.int p.high), some (.int n), some ev, none, none, none, none, none, none], ?_, ?_⟩
    · exact ⟨_, rfl, _, rfl, _, rfl, rfl, rfl, eff fun ev H1 S1 he => ⟨ev, S1, he, rfl⟩⟩
    rintro σ H1 ⟨ev, S1, he, rfl⟩
    cases hef : effE p.w p.row p.since with
    | none =>
      rw [hef] at he
      obtain rfl : ev = .non := he
      refine ⟨_, rfl, rfl, _, rfl, iteT ⟨_, rfl, rfl, _, rfl, ite2 (fun c => ?_) fun c => ?_⟩⟩
      · have c : n = 0 := by simpa using c
        refine ⟨_, rfl, _, rfl, by show 2 ≤ sizeLine; decide, fun t H2 n2 S2 e2 => fin (o := some (p.low, p.high)) (S1.trans S2) ⟨t, rfl, e2⟩ ?_⟩
        unfold spanP spanE
        rw [hse, hef]
        exact if_pos c
      · have c : ¬ n = 0 := by simpa using c
        refine fin (o := none) S1 rfl ?_
        unfold spanP spanE
        rw [hse, hef]
        exact if_neg c
    | some e =>
      rw [hef] at he
      obtain ⟨te, rfl, hte⟩ := he
      have hsp : spanP p = if n = 0 then cutP p.low (mn p.high (e.least - 1)) else if n > e.top then none else cutP (mx (mx p.low e.least) (e.by_ * n - e.add)) (if n < e.top then mn p.high (e.by_ * n - e.add + e.by_ - 1) else p.high) := by
        unfold spanP spanE
        rw [hse, hef]
      refine ⟨_, rfl, rfl, _, rfl, iteF ?_⟩
      refine ⟨fun σ H2 => H2 = H1 ∧ σ = [some (.ref t), some (.ref a), some (.str (rowS p.row)), some (.int (p.since : Nat)), some (.int p.low), some (.int p.high), some (.int n), some (.ref te), some (.int e.least), some (.int e.add), some (.int e.by_), some (.int e.top), none, none], ?_, ?_⟩
      · exact ⟨_, rfl, te, _, rfl, SqT.of hte, rfl, _, _, rfl, _, _, rfl, _, _, rfl, _, _, rfl, rfl, rfl, rfl⟩
      rintro σ H2 ⟨rfl, rfl⟩
      refine ⟨_, rfl, rfl, _, rfl, ite2 (fun c => ?_) fun c => ?_⟩
      · have c : n = 0 := by simpa using c
        rw [if_pos c] at hsp
        exact ⟨_, rfl, _, rfl, _, rfl, _, _, rfl, rfl, _, _, rfl, _, _, rfl, fun v' H' S' h => fin (S1.trans S') h hsp⟩
      have c : ¬ n = 0 := by simpa using c
      rw [if_neg c] at hsp
      refine ⟨_, rfl, rfl, _, rfl, iteF_of (decide_eq_false (fun z => by cases z)) ?_⟩
      refine ⟨_, rfl, _, rfl, _, _, rfl, rfl, _, rfl, ite2 (fun d => ?_) fun d => ?_⟩
      · have d : n > e.top := of_decide_eq_true d
        rw [if_pos d] at hsp
        exact fin (o := none) S1 rfl hsp
      have d : ¬ n > e.top := fun z => d (decide_eq_true z)
      rw [if_neg d] at hsp
      refine ⟨fun σ H1 => H1 = H2 ∧ σ = [some (.ref t), some (.ref a), some (.str (rowS p.row)), some (.int (p.since : Nat)), some (.int p.low), some (.int p.high), some (.int n), some (.ref te), some (.int e.least), some (.int e.add), some (.int e.by_), some (.int e.top), some (.int (e.by_ * n - e.add)), none], ?_, ?_⟩
      · exact ⟨_, rfl, _, rfl, _, _, rfl, rfl, .inr ⟨by omega, by omega⟩, _, rfl, _, _, rfl, rfl, rfl, rfl⟩
      rintro σ H1 ⟨rfl, rfl⟩
      generalize e.by_ * n - e.add = F at hsp ⊢
      refine ⟨_, rfl, ?_⟩
      refine ⟨fun σ H2 => H2 = H1 ∧ σ = [some (.ref t), some (.ref a), some (.str (rowS p.row)), some (.int (p.since : Nat)), some (.int p.low), some (.int p.high), some (.int n), some (.ref te), some (.int e.least), some (.int e.add), some (.int e.by_), some (.int e.top), some (.int F), some (.int (if n < e.top then mn p.high (F + e.by_ - 1) else p.high))], ?_, ?_⟩
      · refine ⟨_, rfl, _, rfl, _, _, rfl, rfl, _, rfl, ite2 (fun f => ?_) fun f => ?_⟩
        · have f : n < e.top := of_decide_eq_true f
          rw [if_pos f]
          exact ⟨_, rfl, _, rfl, _, rfl, _, _, rfl, rfl, _, _, rfl, rfl, _, _, rfl, rfl, rfl⟩
        · have f : ¬ n < e.top := fun z => f (decide_eq_true z)
          rw [if_neg f]
          exact ⟨rfl, rfl⟩
      rintro σ H2 ⟨rfl, rfl⟩
      exact ⟨_, rfl, _, rfl, _, rfl, _, _, _, _, rfl, nuMax3_int _ _ _, _, rfl, _, _, rfl, fun v' H' S' h => fin (S1.trans S') h hsp⟩
end
end WH

set_option maxHeartbeats 4000000
namespace WH
open PySem PySem.Spec PyProof.Rows L2
section
variable {P : Program} {w : World} {K : PySem.W.Frag} {mg : Str → Option Value} {base : Heap}
def spPart (K : PySem.W.Frag) : Sp := fun vs H Q _ => ∃ v p, vs = [v] ∧ PartV K H v p ∧ ∀ H', Same H H' → Q (.bl true) H'
theorem cal_is_part (T : Txt K mg) : C8.Cal P w K mg base 5 "is_part" (spPart K) [] := by
  refine calD T.f_is_part T.g_is_part sc_is_part (fun fd F => F.bindsN fun _ _ _ _ _ _ us hl => match us, hl with | [_], _ => rfl) (fun vs H Q E h => by obtain ⟨_, _, rfl, _⟩ := h; rfl) fun cdv A outer s H vs Q E hr h => ?_
  refine ⟨_, (pss_cons (ps_if (PW.pt (pw_or (pt_not (pt_val (pe_callB call_isi (by rfl) T.b_isinstance (by decide +kernel) (pa_cons (pv 0) (pa_cons (pe_bltn (v := .ty "tuple") (by rfl) T.b_tuple (by decide +kernel) rfl) pa_nil))))) (pw_or (pt_cmpR op_ne (pe_callB call_len (by rfl) T.b_len (by decide +kernel) (pa_cons (pv 0) pa_nil)) pe_int (nomark _)) (pw_or1 (pt_not (pt_val (pe_callB call_isi (by rfl) T.b_isinstance (by decide +kernel) (pa_cons (pe_ix ix_tup (pv 0) pe_int (fun _ _ => rfl)) (pa_cons (C8.pe_gc (v := .ref (He.ga K "Wane")) rfl ⟨_, T.g_Wane, rfl⟩) pa_nil))))))))) (pss_one (ps_ret pe_bl)) pss_nil) (pss_cons (ps_if (PW.pt (pw_or (pt_not (pt_val (C8.pe_c (cal_is_row T) hr (by decide) rfl (pa_cons (pe_ix ix_tup (pv 0) pe_int (fun _ _ => rfl)) pa_nil)))) (pw_or (pt_not (pt_val (C8.pe_c (cal_is_moment T) hr (by decide) rfl (pa_cons (pe_ix ix_tup (pv 0) pe_int (fun _ _ => rfl)) pa_nil)))) (pw_or (pt_not (pt_val (C8.pe_c (cal_is_strength T) hr (by decide) rfl (pa_cons (pe_ix ix_tup (pv 0) pe_int (fun _ _ => rfl)) pa_nil)))) (pw_or1 (pt_not (pt_val (C8.pe_c (cal_is_strength T) hr (by decide) rfl (pa_cons (pe_ix ix_tup (pv 0) pe_int (fun _ _ => rfl)) pa_nil))))))))) (pss_one (ps_ret pe_bl)) pss_nil) (pss_one (ps_ret (pe_and (pe_chain op_le op_le (pe_ix ix_tup (pv 0) pe_int (fun _ _ => rfl)) (pe_ix ix_tup (pv 0) pe_int (fun _ _ => rfl)) (C8.pe_mt0 (met_Wane_cap T) hr (by decide) (pe_ix ix_tup (pv 0) pe_int (fun _ _ => rfl)))) (pe_one (C8.pe_c (cal_is_seen T) hr (by decide) rfl (pa_cons (pe_ix ix_tup (pv 0) pe_int (fun _ _ => rfl)) pa_nil)))))))), ?_⟩
  obtain ⟨v, p, rfl, ⟨t, a, sv, rfl, ht, hw, hs, ok⟩, q⟩ := h
  obtain ⟨dx, hh, ht', ea, _⟩ := id hw
  have c2 := hw.ok.c2
  have l1 := ok.l1
  have lh := ok.lh
  have hc := ok.hc
  refine ⟨_, rfl, _, _, .type "tuple", _, _, rfl, .ty _, .base (.tup ht), T.kit (by simp [tys]) (by simp [cls]), _, rfl, ?_⟩
  refine iteF ⟨_, rfl, _, 6, rfl, .inr ⟨_, .of ht, rfl⟩, rfl, _, rfl, iteF ?_⟩
  refine ⟨_, rfl, t, _, _, _, rfl, rfl, SqT.of ht, rfl, _, _, .ref (cW K), _, _, rfl, .own _, knw_wane T hw, T.kit (by simp [tys]) (by simp [cls]), _, rfl, ?_⟩
  rw [show isk (.ref (cW K)) (.ref (cW K)) = true by simp [isk]]
  refine iteF ⟨_, rfl, t, _, _, _, rfl, rfl, SqT.of ht, rfl, p.row, rfl, ok.l, fun H1 S1 => ⟨_, rfl, iteF ?_⟩⟩
  have ht1 := S1 _ _ ht
  refine ⟨_, rfl, t, _, _, _, rfl, rfl, SqT.of ht1, rfl, _, rfl, knw_int _, _, rfl, ?_⟩
  rw [wi_int (by omega) ok.n]
  refine iteF ⟨_, rfl, t, _, _, _, rfl, rfl, SqT.of ht1, rfl, _, rfl, knw_int _, _, rfl, ?_⟩
  rw [wi_int l1 (by omega)]
  refine iteF ⟨_, rfl, t, _, _, _, rfl, rfl, SqT.of ht1, rfl, _, rfl, knw_int _, _, rfl, ?_⟩
  rw [wi_int (by omega) (by omega)]
  refine iteF ⟨_, rfl, t, _, _, _, rfl, rfl, SqT.of ht1, rfl, _, rfl, t, _, _, _, rfl, rfl, SqT.of ht1, rfl, _, _, rfl, rfl, _, rfl, ?_⟩
  rw [decide_eq_true lh]
  refine iteT ⟨_, rfl, t, _, _, _, rfl, rfl, SqT.of ht1, rfl, a, dx, _, rfl, S1 _ _ ea, by kernel_rfl, a, p.w, rfl, hw.mono S1, _, _, rfl, rfl, _, rfl, ?_⟩
  rw [decide_eq_true hc]
  exact iteT ⟨_, rfl, t, _, _, _, rfl, rfl, SqT.of ht1, rfl, sv, p.seen, rfl, hs, q _ S1⟩
/-! ### origins -/
abbrev cO (K : PySem.W.Frag) : Addr := He.ga K "Origins"
def oF (f : Addr) : List (Str × V) := [("fitting", .ref f)]
theorem oF_put (f : Addr) : putF "fitting" (.ref f) [] = oF f := by kernel_rfl
theorem oF_get (f : Addr) : (oF f).lookup ("fitting" : Str) = some (.ref f) := by kernel_rfl
def OrigAt (K : PySem.W.Frag) (H : Hp) (a : Addr) (ss : List Span) : Prop := ∃ dx f vs, H a = some (.ins (cO K) dx (oF f)) ∧ H f = some (.lst vs) ∧ Paired (SpanV H) vs ss
theorem OrigAt.mono {H H' : Hp} (s : Same H H') {a : Addr} {ss : List Span} : OrigAt K H a ss → OrigAt K H' a ss := fun ⟨dx, f, vs, e, h, p⟩ => ⟨dx, f, vs, s _ _ e, s _ _ h, Paired.mapP p fun _ _ => SpanV.tup (Tup.of s)⟩
def spSpans (K : PySem.W.Frag) : Sp := fun vs H Q _ => ∃ a ss, vs = [.ref a] ∧ OrigAt K H a ss ∧ ∀ l H' us, Same H H' → H l = none → H' l = some (.lst us) → Paired (SpanV H') us ss → Q (.ref l) H'
theorem met_Origins_spans (T : Txt K mg) : C8.Met P w K mg base 1 (He.ga K "Origins") "spans" (spSpans K) [] := by
  refine metD T.f_Origins_spans T.cl_Origins T.m_Origins_spans sc_Origins_spans (fun fd F => F.bindsN fun _ _ _ _ _ _ us hl => match us, hl with | [_], _ => rfl) (fun vs H Q E h => by obtain ⟨_, _, rfl, _⟩ := h; rfl) fun cdv A outer s H vs Q E hr h => ?_
  refine ⟨_, (pss_one (ps_ret (pe_callTy NW.call_list_ofN (by rfl) T.b_list (by decide +kernel) (pa_cons (pe_fld (pv 0) rfl) pa_nil)))), ?_⟩
  obtain ⟨a, ss, rfl, ⟨dx, f, vs, e, hf, p⟩, q⟩ := h
  refine ⟨_, rfl, a, _, dx, _, _, rfl, e, T.cl_Origins, T.n_Origins_fitting, oF_get .., f, vs, rfl, .inl (SqL.of hf), fun l H2 nl S2 h2 => q l H2 _ S2 nl h2 (Paired.mapP p fun _ _ => SpanV.tup (Tup.of S2))⟩
def manyP (ss : List Span) : Int := ss.foldl (fun n s => n * widthP s) 1
def spMany1 (K : PySem.W.Frag) : Sp := fun vs H Q _ => ∃ a ss, vs = [.ref a] ∧ OrigAt K H a ss ∧ (∀ s ∈ ss, 0 ≤ widthP s ∧ widthP s ≤ 1000000000) ∧ Q (.int (manyP ss)) H
theorem met_Origins_many (T : Txt K mg) : C8.Met P w K mg base 2 (He.ga K "Origins") "many" (spMany1 K) [] := by
  refine metD T.f_Origins_many T.cl_Origins T.m_Origins_many sc_Origins_many (fun fd F => F.bindsN fun _ _ _ _ _ _ us hl => match us, hl with | [_], _ => rfl) (fun vs H Q E h => by obtain ⟨_, _, rfl, _⟩ := h; rfl) fun cdv A outer s H vs Q E hr h => ?_
  refine ⟨_, (pss_cons (ps_set (i := 1) sc_Origins_many.nd rfl (by first | exact Or.inl rfl | exact Or.inr rfl) pe_int) (pss_cons (ps_for PassesOwn.never rfl (pi_list (pe_fld (pv 0) rfl)) (pg_name (i := 2) sc_Origins_many.nd rfl (by first | exact Or.inl rfl | exact Or.inr rfl)) (pss_one (ps_set (i := 1) sc_Origins_many.nd rfl (by first | exact Or.inl rfl | exact Or.inr rfl) (pe_op op_mul (pv 1) (C8.pe_c (cal_width T) hr (by decide) rfl (pa_cons (pv 2) pa_nil)))))) (pss_one (ps_ret (pv 1))))), ?_⟩
  obtain ⟨a, ss, rfl, ⟨dx, f, vs, e, hf, p⟩, ws, q⟩ := h
  refine ⟨_, rfl, a, _, dx, _, _, rfl, e, T.cl_Origins, T.n_Origins_fitting, oF_get .., f, rfl, ⟨_, SqL.of hf⟩, ?_⟩
  refine for_list (K := K) (a := f) (xs := vs) (fun i σ H' => H' = H ∧ ∃ o, σ = [some (.ref a), some (.int (manyP (ss.take i))), o]) ⟨rfl, _, rfl⟩ (fun i σ H' _ h => by rw [h.1]; exact SqL.of hf) ?_ ?_
  · rintro i x σ H' hi ⟨rfl, o, rfl⟩
    obtain ⟨y, hy, hx⟩ := paired_get p hi
    obtain ⟨w0, w1⟩ := ws y (List.mem_of_getElem? hy)
    refine ⟨_, rfl, _, rfl, x, y, rfl, hx, _, _, rfl, rfl, .inr ⟨by omega, by omega⟩, rfl, some x, ?_⟩
    rw [take_snoc hy]
    unfold manyP
    rw [List.foldl_append]
    rfl
  · rintro σ H' ⟨rfl, o, rfl⟩
    rw [paired_len p, List.take_length]
    exact ⟨_, rfl, q⟩
/-! ### origins made -/
def okSp : Span → Prop
  | none => True
  | some p => 1 ≤ p.1 ∧ p.1 ≤ p.2 ∧ p.2 ≤ 1000000000
theorem okSp.wd : ∀ {s : Span}, okSp s → 0 ≤ widthP s ∧ widthP s ≤ 1000000000
  | none, _ => ⟨by decide, by decide⟩
  | some p, ⟨h1, h2, h3⟩ => ⟨by show 0 ≤ p.2 - p.1 + 1; omega, by show p.2 - p.1 + 1 ≤ _; omega⟩
theorem cutP_ok {l g : Int} (h1 : 1 ≤ l) (h2 : g ≤ 1000000000) : okSp (cutP l g) := by
  unfold cutP
  split
  · trivial
  · exact ⟨h1, by omega, h2⟩
theorem mn_le (a b : Int) : mn a b ≤ a ∧ mn a b ≤ b := by unfold mn; split <;> omega
theorem mx_ge (a b : Int) : a ≤ mx a b ∧ b ≤ mx a b := by unfold mx; split <;> omega
theorem spanP_ok {p : Part} (ok : okPt p) (c : p.w.cap ≤ 1000000000) : okSp (spanP p) := by
  have h1 := ok.l1
  have h2 := ok.lh
  have h3 := ok.hc
  unfold spanP spanE
  split
  · exact ⟨h1, h2, by show p.high ≤ _; omega⟩
  · split
    · exact ⟨h1, h2, by show p.high ≤ _; omega⟩
    · trivial
  · trivial
  · rename_i e _ _
    exact cutP_ok (by have := (mx_ge p.low e.least).1; omega) (by omega)
  · rename_i n e _ _
    split
    · exact cutP_ok h1 (by have := (mn_le p.high (e.least - 1)).1; omega)
    · split
      · trivial
      · refine cutP_ok ?_ ?_
        · have := (mx_ge p.low e.least).1
          have := (mx_ge (mx p.low e.least) (e.by_ * n - e.add)).1
          omega
        · split
          · have := (mn_le p.high (e.by_ * n - e.add + e.by_ - 1)).1
            omega
          · omega
def PartsV (K : PySem.W.Frag) (H : Hp) (a : Addr) (ps : List Part) : Prop := ∃ vs, H a = some (.lst vs) ∧ Paired (PartV K H) vs ps
def spOInit (K : PySem.W.Frag) : Sp := fun vs H Q _ => ∃ H0 x dx l ps, vs = [.ref x, .ref l] ∧ H = upd (upd H0 dx (.own x)) x (.ins (cO K) dx []) ∧ H0 x = none ∧ H0 dx = none ∧ dx ≠ x ∧ PartsV K H0 l ps ∧ 1 ≤ ps.length ∧ ps.length ≤ 8 ∧
  ∀ H', Same H0 H' → OrigAt K H' x (ps.map spanP) → Q .non H'
theorem fn_Origins_init (T : Txt K mg) {fd : FuncData} (F : FD K d_Origins___init__ fd) : FnOk P w K mg base C8.CX0 6 (He.fAd K d_Origins___init__.at_) fd ["self", "parts"] (spOInit K) := by
  refine F.ok sc_Origins___init__ (fun vs H Q E h => by obtain ⟨_, _, _, _, _, rfl, _⟩ := h; rfl) fun cdv A outer s H vs Q E hr h => ?_
  obtain ⟨H0, x, dx, l, ps, rfl, eH, nx, nd, ne, ⟨ws, hl0, hp0⟩, p1, p8, q⟩ := h
  have s0 : Same H0 H := by rw [eH]; exact Same.mut (same_new nd) nx
  have hx : H x = some (.ins (cO K) dx []) := by rw [eH]; exact upd_same
  have hl := s0 _ _ hl0
  have hp := Paired.mapP hp0 fun _ _ => PartV.mono s0
  have lw := paired_len hp
  refine ⟨_, PSs.nox ((pss_cons (ps_if (PW.pt (pw_or (pt_not (pt_val (pe_callB call_isi (by rfl) T.b_isinstance (by decide +kernel) (pa_cons (pv 1) (pa_cons (pe_bltn (v := .ty "list") (by rfl) T.b_list (by decide +kernel) rfl) pa_nil))))) (pw_or1 (pt_not (pt_chain op_le op_le pe_int (pe_callB call_len (by rfl) T.b_len (by decide +kernel) (pa_cons (pv 1) pa_nil)) (C8.pe_gc rfl T.c_MOST_PARTS)))))) (pss_one ps_never) pss_nil) (pss_cons (ps_if (pt_not (pt_val (pe_callB (cr_all rfl) (by rfl) T.b_all (by decide +kernel) (pa_cons (pe_lc (own := [("part", 2)]) (by rfl) sc_Origins___init__.nd (pi_list (pv 1)) (blkOk_by (own := [("part", 2)]) (N := n_Origins___init__) (sc := defScope s_Origins___init__) (by decide +kernel)) (fun _ _ _ _ _ => (pg_name (i := 2) sc_Origins___init__.nd rfl (by first | exact Or.inl rfl | exact Or.inr rfl))) (fun _ _ _ _ _ => pts_nil) (fun _ _ _ _ _ => (C8.pe_c (cal_is_part T) hr (by decide) rfl (pa_cons (pv 2) pa_nil)))) pa_nil)))) (pss_one ps_never) pss_nil) (pss_one (ps_fld (pv 0) (pe_lc (own := [("part", 2)]) (by rfl) sc_Origins___init__.nd (pi_list (pv 1)) (blkOk_by (own := [("part", 2)]) (N := n_Origins___init__) (sc := defScope s_Origins___init__) (by decide +kernel)) (fun _ _ _ _ _ => (pg_name (i := 2) sc_Origins___init__.nd rfl (by first | exact Or.inl rfl | exact Or.inr rfl))) (fun _ _ _ _ _ => pts_nil) (fun _ _ _ _ _ => (C8.pe_c (cal_span_of T) hr (by decide) rfl (pa_cons (pv 2) pa_nil)))) rfl))))), ?_⟩
  refine ⟨_, rfl, _, _, .type "list", _, _, rfl, .ty _, .base (.lst hl), T.kit (by simp [tys]) (by simp [cls]), _, rfl, iteF ?_⟩
  refine ⟨_, rfl, _, _, rfl, .inl ⟨_, .of hl, rfl⟩, _, _, rfl, rfl, _, rfl, ?_⟩
  rw [show decide ((1 : Int) ≤ (ws.length : Nat)) = true from decide_eq_true (by omega)]
  refine iteT ⟨_, _, rfl, rfl, _, rfl, ?_⟩
  rw [show decide (((ws.length : Nat) : Int) ≤ 8) = true from decide_eq_true (by omega)]
  refine iteF ?_
  refine ⟨_, rfl, l, rfl, ⟨_, SqL.of hl⟩, fun D hD => ?_⟩
  refine lc_list (K := K) (a := l) (xs := ws) (fun i H' => Same H H' ∧ H' D = some (.lst ((List.replicate i true).map V.bl))) ⟨same_new hD, upd_same⟩ (fun i H' _ p => p.1.seq (SqL.of hl)) ?_ ?_
  · rintro i y H' hi ⟨S, hd⟩
    obtain ⟨z, hz, hy⟩ := paired_get hp hi
    refine ⟨rfl, _, rfl, y, z, rfl, hy.mono S, fun H2 S2 => ⟨_, S2 _ _ hd, ?_, Same.mut (S.trans S2) hD, ?_⟩⟩
    · have := (List.getElem?_eq_some_iff.mp hi).1
      rw [List.length_map, List.length_replicate]
      exact small1000 (by omega)
    · rw [upd_same, List.replicate_succ', List.map_append]; rfl
  rintro H1 ⟨S1, hd⟩
  refine ⟨D, _, rfl, SqL.of hd, ?_⟩
  rw [all_true]
  refine ⟨_, rfl, iteF ?_⟩
  have hl1 := S1 _ _ hl
  have hp1 := Paired.mapP hp fun _ _ => PartV.mono S1
  refine ⟨_, rfl, l, rfl, ⟨_, SqL.of hl1⟩, fun D2 hD2 => ?_⟩
  refine lc_list (K := K) (a := l) (xs := ws) (fun i H' => Same H1 H' ∧ ∃ us, H' D2 = some (.lst us) ∧ Paired (SpanV H') us ((ps.take i).map spanP)) ⟨same_new hD2, [], upd_same, .nil⟩ (fun i H' _ p => p.1.seq (SqL.of hl1)) ?_ ?_
  · rintro i y H' hi ⟨S, us, hd, pu⟩
    obtain ⟨z, hz, hy⟩ := paired_get hp1 hi
    refine ⟨rfl, _, rfl, y, z, rfl, hy.mono S, fun v' H2 S2 hv => ?_⟩
    have hd2 := S2 _ _ hd
    have T : Tup H2 (upd H2 D2 (.lst (us ++ [v']))) := Tup.upd fun vs e => by rw [hd2] at e; cases e
    refine ⟨_, hd2, ?_, Same.mut (S.trans S2) hD2, _, upd_same, ?_⟩
    · have := paired_len pu
      rw [List.length_map, List.length_take] at this
      exact small1000 (by omega)
    · rw [take_snoc hz, List.map_append]
      exact paired_snoc (Paired.mapP pu fun _ _ h => (SpanV.tup (Tup.of S2) h).tup T) (hv.tup T)
  rintro H2 ⟨S2, us, hu, pu⟩
  have x1 := S2 _ _ (S1 _ _ hx)
  refine ⟨_, rfl, x, cO K, dx, [], rfl, x1, T.cl_Origins, T.n_Origins_fitting, by decide, ?_⟩
  rw [oF_put]
  have e1 : ps.take ws.length = ps := by rw [lw, List.take_length]
  rw [e1] at pu
  have T2 : Tup H2 (upd H2 x (.ins (cO K) dx (oF D2))) := Tup.upd fun vs e => by rw [x1] at e; cases e
  refine q _ (Same.mut ((s0.trans S1).trans S2) nx) ⟨dx, D2, us, upd_same, ?_, Paired.mapP pu fun _ _ => SpanV.tup T2⟩
  rw [upd_ne (fun z => by rw [z, x1] at hu; cases hu)]
  exact hu
theorem mak_Origins (T : Txt K mg) : C8.Mak P w K mg base 6 "Origins" (He.ga K "Origins") (spOInit K) [] := by
  obtain ⟨fd, F⟩ := T.f_Origins___init__
  exact ⟨_, fd, ["self", "parts"], [], T.mk_Origins, fn_Origins_init T F, T.g_Origins, F.bindsN fun _ _ _ _ _ _ us hl => match us, hl with | [_, _], _ => rfl, .nil⟩
end
end WH

set_option maxHeartbeats 4000000
namespace WH
open PySem PySem.Spec PyProof.Rows L2
def lowP : Span → Int
  | none => 0
  | some p => p.1
def stepL (st : List Int × Int) (s : Span) : List Int × Int := (st.1 ++ [lowP s + st.2 % widthP s], st.2 / widthP s)
def listP (ss : List Span) (n : Int) : List Int := (ss.reverse.foldl stepL ([], n)).1.reverse
theorem many_zero : ∀ {ss : List Span} {a : Int}, (a = 0 ∨ ∃ s ∈ ss, widthP s = 0) → ss.foldl (fun n s => n * widthP s) a = 0
  | [], a, h => by
    rcases h with h | ⟨s, hs, _⟩
    · exact h
    · cases hs
  | s :: ss, a, h => by
    show ss.foldl (fun n s => n * widthP s) (a * widthP s) = 0
    refine many_zero ?_
    rcases h with h | ⟨t, ht, h⟩
    · left; rw [h, Int.zero_mul]
    · rcases List.mem_cons.mp ht with rfl | ht
      · left; rw [h, Int.mul_zero]
      · right; exact ⟨t, ht, h⟩
theorem many_pos {ss : List Span} (ok : ∀ s ∈ ss, okSp s) (h : 0 < manyP ss) : ∀ s ∈ ss, 0 < widthP s := fun s hs => by
  have := (ok s hs).wd.1
  by_cases z : widthP s = 0
  · rw [manyP, many_zero (.inr ⟨s, hs, z⟩)] at h
    exact absurd h (by decide)
  · omega
theorem span_pos {s : Span} (h : 0 < widthP s) : ∃ p, s = some p := by
  cases s with
  | none => exact absurd h (by decide)
  | some p => exact ⟨p, rfl⟩
def fits (x : Int) : Span → Bool
  | none => false
  | some p => decide (p.1 ≤ x) && decide (x ≤ p.2)
def numGo : List (Int × Span) → Int → Option Int
  | [], n => some n
  | q :: r, n => if fits q.1 q.2 = true then numGo r (n * widthP q.2 + q.1 - lowP q.2) else none
theorem paired_rev {α β : Type} {F : α → β → Prop} : ∀ {xs : List α} {ys : List β}, Paired F xs ys → Paired F xs.reverse ys.reverse
  | _, _, .nil => .nil
  | _, _, .cons r t => by
    rw [List.reverse_cons, List.reverse_cons]
    exact ND.paired_app (paired_rev t) (.cons r .nil)
theorem fold_snoc {α β : Type} {f : β → α → β} {l : List α} {i : Nat} {y : α} {b : β} (h : l[i]? = some y) : (l.take (i + 1)).foldl f b = f ((l.take i).foldl f b) y := by
  rw [List.take_add_one, h, List.foldl_append]; rfl
theorem stepL_len : ∀ (l : List Span) (st : List Int × Int), (l.foldl stepL st).1.length = st.1.length + l.length
  | [], st => rfl
  | s :: l, st => by
    show (l.foldl stepL (stepL st s)).1.length = _
    rw [stepL_len l]
    show (st.1 ++ [_]).length + l.length = _
    rw [List.length_append, List.length_cons, List.length_cons]
    simp; omega
section
variable {P : Program} {w : World} {K : PySem.W.Frag} {mg : Str → Option Value} {base : Heap}
abbrev cNN (K : PySem.W.Frag) : Addr := He.ga K "NoNumber"
abbrev cNO (K : PySem.W.Frag) : Addr := He.ga K "NotOne"
theorem exc_NoNumber (T : Txt K mg) : ∃ fd, FnOk P w K mg base C8.CX0 1 (He.ma K (He.ga K "NoNumber") "__init__") fd ["self", "number"] (EX.spX (He.ga K "NoNumber") "number") ∧ Binds K fd ["self", "number"] [] := by
  obtain ⟨fd, F⟩ := T.f_NoNumber___init__
  refine ⟨fd, F.ok sc_NoNumber___init__ (fun vs H Q E h => by obtain ⟨_, _, rfl, _⟩ := h; rfl) (fun cdv A outer s H vs Q E hr h => ?_), F.bindsN fun _ _ _ _ _ _ us hl => match us, hl with | [_, _], _ => rfl⟩
  obtain ⟨a, v, rfl, ha, q⟩ := h
  refine ⟨_, PSs.nox ((pss_cons (ps_expr (EX.pe_binit (by rfl) T.g_WaneError T.bin (pa_cons (pv 0) (pa_cons pe_str pa_nil)))) (pss_one (ps_ost (pv 0) (pv 1))))), ?_⟩
  refine ⟨_, rfl, a, He.ga K "NoNumber", _, rfl, by show 1 ≤ 1000; decide, T.x_NoNumber, ha, ?_⟩
  exact ⟨_, rfl, _, rfl, a, He.ga K "NoNumber", rfl, T.x_NoNumber, T.n_NoNumber_number, .inl ⟨ha, fun dx nd ne => q dx nd ne⟩⟩
theorem exc_NotOne (T : Txt K mg) : ∃ fd, FnOk P w K mg base C8.CX0 1 (He.ma K (He.ga K "NotOne") "__init__") fd ["self"] (EI.spN (He.ga K "NotOne")) ∧ Binds K fd ["self"] [] := by
  obtain ⟨fd, F⟩ := T.f_NotOne___init__
  refine ⟨fd, F.ok sc_NotOne___init__ (fun vs H Q E h => by obtain ⟨_, rfl, _⟩ := h; rfl) (fun cdv A outer s H vs Q E hr h => ?_), F.bindsN fun _ _ _ _ _ _ us hl => match us, hl with | [_], _ => rfl⟩
  obtain ⟨a, rfl, ha, q⟩ := h
  refine ⟨_, PSs.nox ((pss_one (ps_expr (EX.pe_binit (by rfl) T.g_WaneError T.bin (pa_cons (pv 0) (pa_cons pe_str pa_nil)))))), ?_⟩
  exact ⟨_, rfl, a, He.ga K "NotOne", _, rfl, by show 1 ≤ 1000; decide, T.x_NotOne, ha, q⟩
def spListOf (K : PySem.W.Frag) : Sp := fun vs H Q E => ∃ a ss n, vs = [.ref a, .int n] ∧ OrigAt K H a ss ∧ (∀ s ∈ ss, okSp s) ∧ ss.length ≤ 8 ∧ 0 ≤ n ∧
  (n < manyP ss → ∀ l H', Same H H' → H l = none → H' l = some (.lst ((listP ss n).map V.int)) → Q (.ref l) H') ∧ (¬ n < manyP ss → ∀ d H', Same H H' → H' d = some (.xd [("number", .int n)]) → E (.ref (cNN K)) (some d) H')
theorem metX_Origins_list_of (T : Txt K mg) : EI.MetX P w K mg base 3 (He.ga K "Origins") "list_of" (spListOf K) := by
  obtain ⟨fd, F⟩ := T.f_Origins_list_of
  refine ⟨_, fd, ["self", "number"], T.cl_Origins, T.m_Origins_list_of, F.ok sc_Origins_list_of (fun vs H Q E h => by obtain ⟨_, _, _, rfl, _⟩ := h; rfl) (fun cdv A outer s H vs Q E hr h => ?_), F.bindsN fun _ _ _ _ _ _ us hl => match us, hl with | [_, _], _ => rfl⟩
  obtain ⟨a, ss, n, rfl, ho, ok, l8, n0, q, qE⟩ := h
  obtain ⟨dx, f, vs, e, hf, p⟩ := id ho
  refine ⟨_, (pss_cons (ps_if (PW.pt (pw_or (pt_not (pt_val (C8.pe_c (cal_is_whole T) hr (by decide) rfl (pa_cons (pv 1) pa_nil)))) (pw_or1 (pt_cmpR op_lt (pv 1) pe_int (nomark _))))) (pss_one ps_never) pss_nil) (pss_cons (ps_if (pt_cmpR op_ge (pv 1) (C8.pe_mt0 (met_Origins_many T) hr (by decide) (pv 0)) (nomark _)) (pss_one (ps_raise rfl (takes_of rfl rfl rfl rfl) (EX.pmk_f (fI := He.ma K (He.ga K "NoNumber") "__init__") T.x_NoNumber T.xi_NoNumber (exc_NoNumber T) hr (by decide) rfl T.g_NoNumber (pa_cons (pv 1) pa_nil)))) pss_nil) (pss_cons (ps_set (i := 2) sc_Origins_list_of.nd rfl (by first | exact Or.inl rfl | exact Or.inr rfl) (NW.pe_lstN pa_nil)) (pss_cons (ps_set (i := 3) sc_Origins_list_of.nd rfl (by first | exact Or.inl rfl | exact Or.inr rfl) (pv 1)) (pss_cons (ps_for (passes_of rfl) rfl (pi_list (pe_revL (pe_fld (pv 0) rfl))) (pg_name (i := 4) sc_Origins_list_of.nd rfl (by first | exact Or.inl rfl | exact Or.inr rfl)) (pss_cons (ps_asg (pe_callB call_divmod (by rfl) T.b_divmod (by decide +kernel) (pa_cons (pv 3) (pa_cons (C8.pe_c (cal_width T) hr (by decide) rfl (pa_cons (pv 4) pa_nil)) pa_nil))) (pg_tup rfl (pgs_cons (pg_name (i := 3) sc_Origins_list_of.nd rfl (by first | exact Or.inl rfl | exact Or.inr rfl)) (pgs_cons (pg_name (i := 5) sc_Origins_list_of.nd rfl (by first | exact Or.inl rfl | exact Or.inr rfl)) pgs_nil)))) (pss_one (ps_expr (pe_bm PySem.F.plainAttrs_list PySem.F.slot_list_append PySem.F.type_list_append mt_append (pv 2) (pa_cons (pe_op op_add (pe_ix ix_tup (pv 4) pe_int (fun _ _ => rfl)) (pv 5)) pa_nil)))))) (pss_one (ps_ret (pe_revL (pv 2))))))))), ?_⟩
  refine ⟨_, rfl, _, rfl, knw_int _, _, rfl, iteF ⟨_, rfl, _, _, rfl, rfl, _, rfl, iteF_of (decide_eq_false (by omega)) ?_⟩⟩
  refine ⟨_, rfl, _, rfl, a, dx, _, rfl, e, by kernel_rfl, a, ss, rfl, ho, fun s hs => (ok s hs).wd, _, _, rfl, rfl, _, rfl, ite2 (fun c => ?_) fun c => ?_⟩
  · have c : manyP ss ≤ n := of_decide_eq_true c
    refine ⟨_, rfl, EX.mkO_use fun d H' S hd _ => ?_⟩
    exact qE (by omega) d H' S hd
  · have c : ¬ manyP ss ≤ n := fun z => c (decide_eq_true z)
    have pos := many_pos ok (by omega)
    refine ⟨by show 0 ≤ sizeLine; decide, fun D H1 nD S1 hD => ⟨_, rfl, ?_⟩⟩
    refine ⟨_, rfl, a, _, dx, _, _, rfl, S1 _ _ e, T.cl_Origins, T.n_Origins_fitting, oF_get .., f, vs, rfl, SqL.of (S1 _ _ hf), fun rl nrl => ⟨rl, rfl, ⟨_, SqL.of upd_same⟩, ?_⟩⟩
    have S2 : Same H (upd H1 rl (.lst vs.reverse)) := S1.trans (same_new nrl)
    have hD2 : upd H1 rl (.lst vs.reverse) D = some (.lst []) := same_new nrl _ _ hD
    have hr2 : upd H1 rl (.lst vs.reverse) rl = some (.lst vs.reverse) := upd_same
    have rD : rl ≠ D := fun z => by rw [z, hD] at nrl; cases nrl
    generalize upd H1 rl (.lst vs.reverse) = H2 at S2 hD2 hr2 ⊢
    have pr := paired_rev p
    refine for_list (K := K) (a := rl) (xs := vs.reverse) (fun i σ H' => Same H H' ∧ H' rl = some (.lst vs.reverse) ∧ H' D = some (.lst ((((ss.reverse.take i).foldl stepL ([], n)).1).map V.int)) ∧ ∃ o4 o5, σ = [some (.ref a), some (.int n), some (.ref D), some (.int ((ss.reverse.take i).foldl stepL ([], n)).2), o4, o5])
      ⟨S2, hr2, hD2, _, _, rfl⟩ (fun i σ H' _ h => SqL.of h.2.1) ?_ ?_
    · rintro i x σ H3 hi ⟨S3, hr3, hD3, o4, o5, rfl⟩
      obtain ⟨y, hy, hx⟩ := paired_get pr hi
      have ym : y ∈ ss := List.mem_reverse.mp (List.mem_of_getElem? hy)
      have y0 := pos y ym
      have y1 := (ok y ym).wd.2
      have hx3 := hx.tup (Tup.of S3)
      refine ⟨_, rfl, _, rfl, x, y, rfl, hx3, _, _, rfl, ⟨y0, by omega⟩, fun t nt => ⟨t, _, rfl, SqT.of upd_same, rfl, _, _, rfl, _, _, rfl, rfl, ?_⟩⟩
      have S4 := same_new nt (o := .tup [V.int (((ss.reverse.take i).foldl stepL ([], n)).2 / widthP y), V.int (((ss.reverse.take i).foldl stepL ([], n)).2 % widthP y)])
      have hD4 := S4 _ _ hD3
      have hr4 := S4 _ _ hr3
      obtain ⟨pr, rfl⟩ := span_pos y0
      obtain ⟨u, rfl, hu⟩ := hx3
      have hu4 := S4 _ _ hu
      generalize upd H3 t (.tup [V.int (((ss.reverse.take i).foldl stepL ([], n)).2 / widthP (some pr)), V.int (((ss.reverse.take i).foldl stepL ([], n)).2 % widthP (some pr))]) = H4 at S4 hD4 hr4 hu4 ⊢
      refine ⟨_, rfl, .inl ⟨rfl, _, SqL.of hD4⟩, _, rfl, u, _, _, _, rfl, rfl, SqT.of hu4, rfl, _, rfl, _, _, rfl, rfl, D, _, _, rfl, rfl, hD4, ?_, ?_⟩
      · rw [List.length_map, stepL_len]
        have := List.length_take_le' i ss.reverse
        have : ss.reverse.length = ss.length := List.length_reverse
        refine small1000 ?_
        have : (([], n) : List Int × Int).1.length = 0 := rfl
        omega
      · refine ⟨Same.mut (S3.trans S4) nD, by rw [upd_ne rD]; exact hr4, ?_, _, _, by rw [fold_snoc hy]; rfl⟩
        rw [upd_same, fold_snoc hy]
        show _ = some (HO.lst ((_ ++ [_]).map V.int))
        rw [List.map_append]; rfl
    · rintro σ H3 ⟨S3, hr3, hD3, o4, o5, rfl⟩
      have el : ss.reverse.take vs.reverse.length = ss.reverse := by rw [List.length_reverse, paired_len p, ← List.length_reverse, List.take_length]
      rw [el] at hD3
      refine ⟨_, rfl, D, _, rfl, SqL.of hD3, fun l nl => q (by omega) l _ (S3.trans (same_new nl)) (S3.free nl) ?_⟩
      rw [upd_same, ← List.map_reverse]; rfl
def spNumberOf (K : PySem.W.Frag) : Sp := fun vs H Q E => ∃ a ss l, ∃ xs : List Int, vs = [.ref a, .ref l] ∧ OrigAt K H a ss ∧ (∀ s ∈ ss, okSp s) ∧ ss.length ≤ 8 ∧ H l = some (.lst (xs.map V.int)) ∧ xs.length = ss.length ∧ (∀ x ∈ xs, 1 ≤ x ∧ x ≤ 1000000000) ∧
  (∀ r, numGo (xs.zip ss) 0 = some r → ∀ H', Same H H' → Q (.int r) H') ∧ (numGo (xs.zip ss) 0 = none → ∀ H', Same H H' → E (.ref (cNO K)) none H')
theorem metX_Origins_number_of (T : Txt K mg) : EI.MetX P w K mg base 4 (He.ga K "Origins") "number_of" (spNumberOf K) := by
  obtain ⟨fd, F⟩ := T.f_Origins_number_of
  refine ⟨_, fd, ["self", "strengths"], T.cl_Origins, T.m_Origins_number_of, F.ok sc_Origins_number_of (fun vs H Q E h => by obtain ⟨_, _, _, _, rfl, _⟩ := h; rfl) (fun cdv A outer s H vs Q E hr h => ?_), F.bindsN fun _ _ _ _ _ _ us hl => match us, hl with | [_, _], _ => rfl⟩
  obtain ⟨a, ss, l, xs, rfl, ho, ok, l8, hl, lx, okx, q, qE⟩ := h
  obtain ⟨dx, f, vs, e, hf, p⟩ := id ho
  have lv := paired_len p
  refine ⟨_, (pss_cons (ps_if (PW.pt (pw_or (pt_not (pt_val (pe_callB call_isi (by rfl) T.b_isinstance (by decide +kernel) (pa_cons (pv 1) (pa_cons (pe_bltn (v := .ty "list") (by rfl) T.b_list (by decide +kernel) rfl) pa_nil))))) (pw_or1 (pt_cmpR op_ne (pe_callB call_len (by rfl) T.b_len (by decide +kernel) (pa_cons (pv 1) pa_nil)) (pe_callB call_len (by rfl) T.b_len (by decide +kernel) (pa_cons (pe_fld (pv 0) rfl) pa_nil)) (nomark _))))) (pss_one ps_never) pss_nil) (pss_cons (ps_if (pt_not (pt_val (pe_callB (cr_all rfl) (by rfl) T.b_all (by decide +kernel) (pa_cons (pe_lc (own := [("strength", 2)]) (by rfl) sc_Origins_number_of.nd (pi_list (pv 1)) (blkOk_by (own := [("strength", 2)]) (N := n_Origins_number_of) (sc := defScope s_Origins_number_of) (by decide +kernel)) (fun _ _ _ _ _ => (pg_name (i := 2) sc_Origins_number_of.nd rfl (by first | exact Or.inl rfl | exact Or.inr rfl))) (fun _ _ _ _ _ => pts_nil) (fun _ _ _ _ _ => (C8.pe_c (cal_is_strength T) hr (by decide) rfl (pa_cons (pv 2) pa_nil)))) pa_nil)))) (pss_one ps_never) pss_nil) (pss_cons (ps_set (i := 3) sc_Origins_number_of.nd rfl (by first | exact Or.inl rfl | exact Or.inr rfl) pe_int) (pss_cons (ps_for (passes_of rfl) rfl (pi_zip (by rfl) T.b_zip (pa_cons (pv 1) (pa_cons (pe_fld (pv 0) rfl) pa_nil))) (pg_tup rfl (pgs_cons (pg_name (i := 2) sc_Origins_number_of.nd rfl (by first | exact Or.inl rfl | exact Or.inr rfl)) (pgs_cons (pg_name (i := 4) sc_Origins_number_of.nd rfl (by first | exact Or.inl rfl | exact Or.inr rfl)) pgs_nil))) (pss_cons (ps_if (PW.pt (pw_or (pt_cmpR op_isN (pv 4) pe_non (nomark _)) (pw_or1 (pt_not (pt_chain op_le op_le (pe_ix ix_tup (pv 4) pe_int (fun _ _ => rfl)) (pv 2) (pe_ix ix_tup (pv 4) pe_int (fun _ _ => rfl))))))) (pss_one (ps_raise rfl (takes_of rfl rfl rfl rfl) (EI.pmk_n (fI := He.ma K (He.ga K "NotOne") "__init__") T.x_NotOne T.xi_NotOne (exc_NotOne T) hr (by decide) rfl T.g_NotOne))) pss_nil) (pss_one (ps_set (i := 3) sc_Origins_number_of.nd rfl (by first | exact Or.inl rfl | exact Or.inr rfl) (pe_op op_sub (pe_op op_add (pe_op op_mul (pv 3) (C8.pe_c (cal_width T) hr (by decide) rfl (pa_cons (pv 4) pa_nil))) (pv 2)) (pe_ix ix_tup (pv 4) pe_int (fun _ _ => rfl))))))) (pss_one (ps_ret (pv 3))))))), ?_⟩
  refine ⟨_, rfl, _, _, .type "list", _, _, rfl, .ty _, .base (.lst hl), T.kit (by simp [tys]) (by simp [cls]), _, rfl, iteF ?_⟩
  refine ⟨_, rfl, _, _, rfl, .inl ⟨_, .of hl, rfl⟩, _, rfl, a, _, dx, _, _, rfl, e, T.cl_Origins, T.n_Origins_fitting, oF_get .., _, _, rfl, .inl ⟨_, .of hf, rfl⟩, rfl, _, rfl, iteF_of ?_ ?_⟩
  · rw [List.length_map, lx, ← lv, decide_eq_true rfl]; rfl
  refine ⟨_, rfl, l, rfl, ⟨_, SqL.of hl⟩, fun D hD => ?_⟩
  refine lc_list (K := K) (a := l) (xs := xs.map V.int) (fun i H' => Same H H' ∧ H' D = some (.lst ((List.replicate i true).map V.bl))) ⟨same_new hD, upd_same⟩ (fun i H' _ p => p.1.seq (SqL.of hl)) ?_ ?_
  · rintro i y H' hi ⟨S, hd⟩
    rw [List.getElem?_map] at hi
    obtain ⟨z, hz, rfl⟩ := Option.map_eq_some_iff.mp hi
    obtain ⟨z1, z2⟩ := okx z (List.mem_of_getElem? hz)
    refine ⟨rfl, _, rfl, _, rfl, knw_int _, ?_⟩
    rw [wi_int z1 z2]
    refine ⟨_, hd, ?_, Same.mut S hD, ?_⟩
    · have := (List.getElem?_eq_some_iff.mp hz).1
      rw [List.length_map, List.length_replicate]
      exact small1000 (by omega)
    · rw [upd_same, List.replicate_succ', List.map_append]; rfl
  rintro H1 ⟨S1, hd⟩
  refine ⟨D, _, rfl, SqL.of hd, ?_⟩
  rw [all_true]
  refine ⟨_, rfl, iteF ⟨_, rfl, _, rfl, a, _, dx, _, _, rfl, S1 _ _ e, T.cl_Origins, T.n_Origins_fitting, oF_get .., l, f, _, _, rfl, SqL.of (S1 _ _ hl), SqL.of (S1 _ _ hf), ?_⟩⟩
  have hl1 := S1 _ _ hl
  have hf1 := S1 _ _ hf
  have lz : (xs.zip ss).length = ss.length := by rw [List.length_zip]; omega
  refine for_it (walk_zip (n := ss.length) (xs := xs.map V.int) (ys := vs) (by rw [List.length_map]; omega)) (fun i σ H' => Same H1 H' ∧ ∃ n o2 o4, numGo (xs.zip ss) 0 = numGo ((xs.zip ss).drop i) n ∧ σ = [some (.ref a), some (.ref l), o2, some (.int n), o4]) ⟨Same.refl _, 0, _, _, by rw [List.drop_zero], rfl⟩ (fun i σ H' _ h => ⟨SqL.of (h.1 _ _ hl1), SqL.of (h.1 _ _ hf1)⟩) ?_ ?_
  · rintro i x σ H2 H3 hi ⟨S2, n, o2, o4, en, rfl⟩ ⟨t, u, v, rfl, nt, eH, hu, hv⟩
    have S3 : Same H2 H3 := by rw [eH]; exact same_new nt
    have ht : H3 t = some (.tup [u, v]) := by rw [eH]; exact upd_same
    clear eH
    have hu : (xs.map V.int)[i]? = some u := hu
    have hv : vs[i]? = some v := hv
    rw [List.getElem?_map] at hu
    obtain ⟨z, hz, rfl⟩ := Option.map_eq_some_iff.mp hu
    obtain ⟨y, hy, hx⟩ := paired_get p hv
    have hx3 := hx.tup (Tup.of ((S1.trans S2).trans S3))
    have hzy : (xs.zip ss)[i]? = some (z, y) := List.getElem?_zip_eq_some.mpr ⟨hz, hy⟩
    have dr : (xs.zip ss).drop i = (z, y) :: (xs.zip ss).drop (i + 1) := by
      rw [List.drop_eq_getElem_cons (by omega), (List.getElem?_eq_some_iff.mp hzy).2]
    rw [dr] at en
    have en : numGo (xs.zip ss) 0 = if fits z y = true then numGo ((xs.zip ss).drop (i + 1)) (n * widthP y + z - lowP y) else none := en
    have S := (S1.trans S2).trans S3
    refine ⟨t, _, rfl, SqT.of ht, rfl, _, _, rfl, _, _, rfl, rfl, ?_⟩
    have bad : fits z y = false → EI.tMkN (He.ga K "NotOne") (EI.spN (He.ga K "NotOne")) [some (.ref a), some (.ref l), some (.int z), some (.int n), some v] H3 (fun cls d H' => E cls d H') := fun hb =>
      EI.mkN_use fun H' S4 => qE (by rw [en, hb]; rfl) H' (S.trans S4)
    cases y with
    | none =>
      obtain rfl : v = .non := hx3
      exact ⟨_, rfl, rfl, _, rfl, iteT (iteT (bad rfl))⟩
    | some pr =>
      obtain ⟨b, rfl, hb⟩ := hx3
      obtain ⟨w0, w1⟩ := (ok _ (List.mem_of_getElem? hy)).wd
      refine ⟨_, rfl, rfl, _, rfl, iteF ⟨_, rfl, b, _, _, _, rfl, rfl, SqT.of hb, rfl, _, rfl, _, _, rfl, rfl, _, rfl, ?_⟩⟩
      by_cases d1 : pr.1 ≤ z
      · rw [decide_eq_true d1]
        refine iteT ⟨_, rfl, b, _, _, _, rfl, rfl, SqT.of hb, rfl, _, _, rfl, rfl, _, rfl, ?_⟩
        by_cases d2 : z ≤ pr.2
        · rw [decide_eq_true d2]
          refine iteF ⟨_, rfl, _, rfl, .ref b, some pr, rfl, ⟨b, rfl, hb⟩, _, _, rfl, rfl, .inr ⟨by omega, by omega⟩, _, rfl, _, _, rfl, rfl, _, rfl, b, _, _, _, rfl, rfl, SqT.of hb, rfl, _, _, rfl, rfl, S2.trans S3, _, _, _, ?_, rfl⟩
          rw [en, if_pos (by simp [fits, d1, d2])]; rfl
        · rw [decide_eq_false d2]
          exact iteT (bad (by simp [fits, d2]))
      · rw [decide_eq_false d1]
        exact iteF ⟨_, rfl, iteT (bad (by simp [fits, d1]))⟩
  · rintro σ H2 ⟨S2, n, o2, o4, en, rfl⟩
    rw [List.drop_eq_nil_of_le (by omega)] at en
    exact ⟨_, rfl, q n en _ (S1.trans S2)⟩
end
end WH

set_option maxHeartbeats 4000000
/-! setdefault of a dict with flat tuples as keys; texts times numbers; repr of a number -/
namespace EJ
open PySem PySem.Spec PyProof.Rows L2
section
variable {X : Cx} {A : Around} {pins : List (Addr × Obj)} {σ : L2.St} {H : Hp} {s : Shared} {a b : Addr} {kvs : List (List L2.Key × V)} {k : List L2.Key} {z : V} {r : Value} {Q : Value → Shared → Prop} {E : Value → Shared → Prop}
theorem d_set (hu : A.units + 1 < cLine) (I : Inv X pins σ H s) (e : H a = some (.dT kvs)) (eb : H b = some (.tup (k.map kV))) (hz : kvs.length < sizeLine) (rd : RelV z r)
    (q1 : ∀ v u s', valV kvs k = some v → RelV v u → Inv X pins σ H s' → Q u s') (q2 : valV kvs k = none → ∀ s', Inv X pins σ (upd H a (.dT (putK kvs k z))) s' → Q r s') :
    wpAny (model X.prog X.w) A (call (.builtin "dict.setdefault") [.ref a, .ref b, r]) Q E s := by
  obtain ⟨z0, hd, xs, rel, dd⟩ := dt_of I.hok e
  have lz : xs.length ≤ sizeLine := by rw [← Paired.length rel]; exact z0
  have lp : (putK kvs k z).length ≤ sizeLine := by have := length_putK kvs k z; omega
  have rv := rel.val k
  refine call_setdefault_heap (hsz := lz) (tupleKind_room_in1 hu) (key_of I.hok eb) hd dd (fun p hp => ?_) fun hn h' dd' hs => ?_
  · rw [hp] at rv
    cases hv : valV kvs k with
    | none => rw [hv] at rv; exact rv.elim
    | some v => rw [hv] at rv; exact q1 v _ _ hv rv (I.tok _)
  · rw [hn] at rv
    cases hv : valV kvs k with
    | some v => rw [hv] at rv; exact rv.elim
    | none =>
      refine q2 hv _ ?_
      obtain ⟨q, es, ep, g1, g2, g3, g4, _, g5⟩ := dd'
      refine d_write I (by rw [e]; exact True.intro) hs ⟨q, g1⟩ ⟨lp, hd, _, (rel.put k eb rd).keeps fun c ys ec => (upd_ne (ne_of ec e (fun z => nomatch z))).trans ec, q, es, ep, g1, g2, g3, g4, g5⟩
def tDSet (td ty tx : TE) : TE := fun σ H Q => td σ H fun x H1 => ∃ a, x = .ref a ∧ IsD H1 a ∧ ty σ H1 fun y H2 => tx σ H2 fun z H3 => ∃ (kvs : List (List L2.Key × V)) (k : List L2.Key) (b : Addr), H3 a = some (.dT kvs) ∧ y = .ref b ∧ H3 b = some (.tup (k.map kV)) ∧ kvs.length < sizeLine ∧
  (∀ v, valV kvs k = some v → Q v H3) ∧ (valV kvs k = none → Q z (upd H3 a (.dT (putK kvs k z))))
theorem pe_dset {o e f : Expr} {apos cpos : Pos} {td ty tx : TE} (hu : X.A.units + 1 < cLine) (ho : PE X o td) (he : PE X e ty) (hf : PE X f tx) (m : M2 X o "setdefault" apos e f cpos) : PE X (.Call (.Attribute o "setdefault" apos) [e, f] [] cpos) (tDSet td ty tx) := by
  refine ⟨fun pins s σ H Q I h => wpAny_Call_method m.base m.few m.line PySem.F.plainAttrs_dict PySem.F.slot_dict_setdefault PySem.F.type_dict_setdefault (thn (ho.run pins s σ H _ I h) fun u s1 ⟨x, H1, I1, rx, a, ex, d, q1⟩ => ?_)⟩
  subst ex
  obtain rfl : u = Value.ref a := rx
  obtain ⟨t1, t2, _⟩ := isD_at I1 d
  refine ⟨t1, t2, ?_⟩
  rw [m.trees]
  refine Calls.callWith_builtin rfl (Calls.evalArgs_plain (Calls.spliced_cons (thn (he.run pins s1 σ H1 _ I1 q1) fun iv s2 ⟨y, H2, I2, ry, q2⟩ => Calls.spliced_cons (thn (hf.run pins s2 σ H2 _ I2 q2) fun fv s3 ⟨z, H3, I3, rz, kvs, k, b, ea, ey, eb, hz, p1, p2⟩ => Calls.spliced_nil ?_))))
  subst ey
  obtain rfl : iv = Value.ref b := ry
  exact d_set hu I3 ea eb hz rz (fun v u s' l rv J => ⟨v, H3, J, rv, p1 v l⟩) fun l s' J => ⟨z, _, J, rz, p2 l⟩
def rMulS : R2 := fun x y H Q => ∃ z n, x = .str z ∧ y = .int n ∧ MulOk z n ∧ Q (.str (Txt.mul z n)) H
theorem op_mulS : OpR X (binaryOp .Mult) rMulS := by
  intro pins s σ H x y v u Q I rx ry h
  obtain ⟨z, n, rfl, rfl, hm, q⟩ := h
  obtain ⟨t, rfl⟩ := rx
  obtain ⟨t', rfl⟩ := ry
  exact SB.mul hm fun t2 k => ⟨.str _, H, I.tok _, ⟨_, rfl⟩, q⟩
theorem call_reprX (gd : X.A.guards = some []) (hu : X.A.units + 64 < cLine) : CallR X (.builtin "repr") (fun xs H Q => (∃ a d, xs = [.ref a] ∧ Dp X.K H (.ref a) d ∧ d.showable = true ∧ d.hasDict = false ∧ d.depth ≤ 60 ∧ d.shown.length ≤ sizeLine ∧ Q (.str d.shown) H) ∨
    ∃ i : Int, xs = [.int i] ∧ i.natAbs.log2 < 1920 ∧ Q (.str (PyData.shown (.int i))) H) := by
  intro pins s σ H xs us Q I r h
  rcases h with h | ⟨i, e, hi, q⟩
  · exact GL.call_reprD gd hu pins s σ H xs us Q I r h
  · refine SkE.call_repr_int pins s σ H xs us Q I r ⟨i, e, hi, ?_⟩
    have e2 : PyData.shown (.int i) = (toString i : String) := by rfl
    rw [← e2]; exact q
end
end EJ

set_option maxHeartbeats 4000000
namespace WH
open PySem PySem.Spec PyProof.Rows L2
theorem joinL_nil : ∀ l : List Bool, TL.joinL [] (l.map fun b => [code b]) = l.map code
  | [] => rfl
  | [b] => rfl
  | a :: b :: l => by
    show [code a] ++ ([] ++ TL.joinL [] ((b :: l).map fun b => [code b])) = _
    rw [joinL_nil (b :: l)]; rfl
theorem join_row (l : List Bool) : Txt.join "" (l.map sgn) = rowS l := by
  have e : l.map sgn = (l.map fun b => [code b]).map SX.S := by
    rw [List.map_map]
    exact List.map_congr_left fun b _ => by cases b <;> decide +kernel
  rw [e, show ("" : Str) = SX.S [] from by decide +kernel, SX.join_S, joinL_nil]; rfl
theorem sum_ones (l : List Bool) : ((l.map sgn).map fun x => x.length).sum = l.length := by
  induction l with
  | nil => rfl
  | cons b l ih =>
    rw [List.map_cons, List.map_cons, List.sum_cons, ih]
    have : (sgn b).length = 1 := by cases b <;> decide +kernel
    rw [this, List.length_cons]; omega
theorem rep_fold (c : Nat) : ∀ (n : Nat) (acc : Array Nat), (List.replicate n #[c]).foldl (· ++ ·) acc = (acc.toList ++ List.replicate n c).toArray
  | 0, acc => by simp
  | n + 1, acc => by
    rw [List.replicate_succ, List.foldl_cons, rep_fold c n]
    simp [List.replicate_succ]
theorem mul_sgn (b : Bool) (n : Nat) (hn : n ≤ 1000) : MulOk (sgn b) (n : Nat) ∧ Txt.mul (sgn b) (n : Nat) = rowS (List.replicate n b) := by
  have e1 : (sgn b).cps = #[code b] := by cases b <;> decide +kernel
  have l1 : (sgn b).length = 1 := by cases b <;> decide +kernel
  constructor
  · refine ⟨?_, fun h1 _ => ?_, fun _ _ => ?_⟩
    · rw [decide_eq_false (by omega), decide_eq_false (by omega)]; rfl
    · rw [l1]
      have : (1 : Int) ≤ (2 ^ 63 - 1) / (n : Int) := Int.le_ediv_of_mul_le (by omega) (by omega)
      show ¬ ((1 : Nat) : Int) > _
      omega
    · rw [l1]
      have e : 1 * ((n : Nat) : Int).toNat = n := by omega
      rw [e]
      exact decide_eq_false (by have : (1000 : Nat) < sizeLine := by decide
                                omega)
  · unfold Txt.mul
    by_cases h1 : (n : Int) < 1
    · rw [if_pos h1]
      obtain rfl : n = 0 := by omega
      cases b <;> decide +kernel
    · rw [if_neg h1]
      by_cases h2 : n = 1
      · subst h2
        cases b <;> decide +kernel
      · rw [if_neg (by rw [l1]; simp; omega), e1]
        have e : ((n : Nat) : Int).toNat = n := by omega
        rw [e, rep_fold]
        simp [rowS, SX.S]
section
variable {P : Program} {w : World} {K : PySem.W.Frag} {mg : Str → Option Value} {base : Heap}
def spNumber : Sp := fun vs H Q _ => ∃ b c n, vs = [.ref b, .int n] ∧ 1 ≤ n ∧ n ≤ 1000000000 ∧ Bag H b c ∧ ∀ v H', But b H H' → Bag H' b c → 1 ≤ v → v ≤ n → Q (.int v) H'
theorem cal__law_number (T : Txt K mg) : C8.Cal P w K mg base 2 "_law_number" spNumber [] := by
  refine calD T.f__law_number T.g__law_number sc__law_number (fun fd F => F.bindsN fun _ _ _ _ _ _ us hl => match us, hl with | [_, _], _ => rfl) (fun vs H Q E h => by obtain ⟨_, _, _, rfl, _⟩ := h; rfl) fun cdv A outer s H vs Q E hr h => ?_
  refine ⟨_, (pss_one (ps_ret (pe_ix ix_list (NW.pe_lstN (pa_cons pe_int (pa_cons (pv 1) (pa_cons (pe_op op_add pe_int (C8.pe_c (cal__law_take T) hr (by decide) rfl (pa_cons (pv 0) (pa_cons (pe_callB (call_min2 rfl) (by rfl) T.b_min (by decide +kernel) (pa_cons (pv 1) (pa_cons pe_int pa_nil))) pa_nil)))) (pa_cons (pe_op op_add pe_int (C8.pe_c (cal__law_take T) hr (by decide) rfl (pa_cons (pv 0) (pa_cons (pv 1) pa_nil)))) pa_nil))))) (C8.pe_c (cal__law_take T) hr (by decide) rfl (pa_cons (pv 0) (pa_cons pe_int pa_nil))) (fun _ _ => rfl)))), ?_⟩
  obtain ⟨b, c, n, rfl, n1, n2, g, q⟩ := h
  refine ⟨_, rfl, _, rfl, _, rfl, _, _, rfl, b, c, _, rfl, g, by split <;> omega, by split <;> omega, fun v1 H1 a1 a2 s1 g1 => ⟨_, _, rfl, rfl, ?_⟩⟩
  refine ⟨_, rfl, _, rfl, b, c, n, rfl, g1, by omega, by omega, fun v2 H2 b1 b2 s2 g2 => ⟨_, _, rfl, rfl, by show 4 ≤ sizeLine; decide, fun l H3 nl S3 e3 => ?_⟩⟩
  refine ⟨_, rfl, b, c, 4, rfl, g2.same S3, by decide, by decide, fun v3 H4 c1 c2 s4 g4 => ?_⟩
  obtain ⟨y, hy, ey⟩ := pick4 (a := 1) (b := n) (c := 1 + v1) (d := 1 + v2) c1 c2
  have a3 : v1 < n := by split at a2 <;> omega
  refine ⟨l, _, _, _, rfl, rfl, SqL.of (s4 _ _ (g2.nb nl) e3), ey, q y H4 (((s1.trans s2).same S3).trans s4) g4 (by omega) (by omega)⟩
def spSigns : Sp := fun vs H Q _ => ∃ b c n, vs = [.ref b, .int n] ∧ 1 ≤ n ∧ n ≤ 100 ∧ Bag H b c ∧ ∀ l H', But b H H' → Bag H' b c → (l.length : Int) ≤ n + 3 → Q (.str (rowS l)) H'
theorem cal__law_signs (T : Txt K mg) : C8.Cal P w K mg base 2 "_law_signs" spSigns [] := by
  refine calD T.f__law_signs T.g__law_signs sc__law_signs (fun fd F => F.bindsN fun _ _ _ _ _ _ us hl => match us, hl with | [_, _], _ => rfl) (fun vs H Q E h => by obtain ⟨_, _, _, rfl, _⟩ := h; rfl) fun cdv A outer s H vs Q E hr h => ?_
  refine ⟨_, (pss_cons (ps_set (i := 2) sc__law_signs.nd rfl (by first | exact Or.inl rfl | exact Or.inr rfl) (C8.pe_c (cal__law_take T) hr (by decide) rfl (pa_cons (pv 0) (pa_cons pe_int pa_nil)))) (pss_cons (ps_set (i := 3) sc__law_signs.nd rfl (by first | exact Or.inl rfl | exact Or.inr rfl) (pe_ix ix_list (NW.pe_lstN (pa_cons (C8.pe_c (cal__law_take T) hr (by decide) rfl (pa_cons (pv 0) (pa_cons pe_int pa_nil))) (pa_cons (C8.pe_c (cal__law_take T) hr (by decide) rfl (pa_cons (pv 0) (pa_cons (pe_op op_add (pv 1) pe_int) pa_nil))) (pa_cons (C8.pe_c (cal__law_take T) hr (by decide) rfl (pa_cons (pv 0) (pa_cons (pe_op op_add (pv 1) pe_int) pa_nil))) (pa_cons (pv 1) pa_nil))))) (C8.pe_c (cal__law_take T) hr (by decide) rfl (pa_cons (pv 0) (pa_cons pe_int pa_nil))) (fun _ _ => rfl))) (pss_cons (ps_if (pt_cmpR op_lt (pv 2) pe_int (nomark _)) (pss_one (ps_ret (pe_op EJ.op_mulS (pe_ix ix_str pe_str (pv 2) (fun _ _ => rfl)) (pv 3)))) pss_nil) (pss_one (ps_ret (pe_join pe_str (pe_lc (own := [("_law_k", 4)]) (by rfl) sc__law_signs.nd (pi_range1 (by rfl) T.b_range (pa_cons (pv 3) pa_nil)) (blkOk_by (own := [("_law_k", 4)]) (N := n__law_signs) (sc := defScope s__law_signs) (by decide +kernel)) (fun _ _ _ _ _ => (pg_name (i := 4) sc__law_signs.nd rfl (by first | exact Or.inl rfl | exact Or.inr rfl))) (fun _ _ _ _ _ => pts_nil) (fun _ _ _ _ _ => (pe_ix ix_str pe_str (pe_op op_add (C8.pe_c (cal__law_take T) hr (by decide) rfl (pa_cons (pv 0) (pa_cons (pe_ix (KX.ix_list (K := K) rfl) (NW.pe_lstN (pa_cons pe_int (pa_cons pe_int pa_nil))) (pe_op op_mod (pv 2) pe_int) (fun _ _ => rfl)) pa_nil))) (pe_callTy call_int1 (by rfl) T.b_int (by decide +kernel) (pa_cons (pe_cmpR op_eq (pv 2) pe_int (nomark _)) pa_nil))) (fun _ _ => rfl)))))))))), ?_⟩
  obtain ⟨b, c, n, rfl, n1, n2, g, q⟩ := h
  refine ⟨_, rfl, b, c, 6, rfl, g, by decide, by decide, fun way H1 w0 w1 s1 g1 => ?_⟩
  refine ⟨_, rfl, b, c, 4, rfl, g1, by decide, by decide, fun v1 H2 a1 a2 s2 g2 => ?_⟩
  refine ⟨_, rfl, _, rfl, _, _, rfl, rfl, b, c, _, rfl, g2, by omega, by omega, fun v2 H3 b1 b2 s3 g3 => ?_⟩
  refine ⟨_, rfl, _, rfl, _, _, rfl, rfl, b, c, _, rfl, g3, by omega, by omega, fun v3 H4 c1 c2 s4 g4 => ?_⟩
  refine ⟨_, rfl, by show 4 ≤ sizeLine; decide, fun l H5 nl S5 e5 => ?_⟩
  refine ⟨_, rfl, b, c, 4, rfl, g4.same S5, by decide, by decide, fun v4 H6 d1 d2 s6 g6 => ?_⟩
  obtain ⟨y, hy, ey⟩ := pick4 (a := v1) (b := v2) (c := v3) (d := n) d1 d2
  obtain ⟨m, em, m0, mn_⟩ : ∃ m : Nat, y = (m : Nat) ∧ 0 ≤ y ∧ y ≤ n + 3 := ⟨y.toNat, by omega, by omega, by omega⟩
  subst em
  refine ⟨l, _, _, _, rfl, rfl, SqL.of (s6 _ _ (g4.nb nl) e5), ey, ?_⟩
  have B06 : But b H H6 := ((((s1.trans s2).trans s3).trans s4).same S5).trans s6
  refine ⟨_, rfl, _, _, rfl, rfl, _, rfl, ite2 (fun z => ?_) fun z => ?_⟩
  · have z : way < 2 := of_decide_eq_true z
    obtain ⟨bb, eb⟩ : ∃ bb, atI (".a" : Str).cps.toList way = some (code bb) := by
      obtain rfl | rfl : way = 0 ∨ way = 1 := by omega
      · exact ⟨true, by decide +kernel⟩
      · exact ⟨false, by decide +kernel⟩
    have es : (⟨#[code bb]⟩ : Str) = sgn bb := by cases bb <;> decide +kernel
    obtain ⟨mk, me⟩ := mul_sgn bb m (by omega)
    refine ⟨_, rfl, _, _, _, rfl, rfl, by show 2 ≤ sizeLine; decide, eb, _, rfl, _, _, rfl, rfl, ?_, ?_⟩
    · rw [es]; exact mk
    · rw [es, me]
      exact q _ H6 B06 g6 (by rw [List.length_replicate]; omega)
  · have z : ¬ way < 2 := fun f => z (decide_eq_true f)
    refine ⟨⟨_, rfl⟩, _, rfl, _, rfl, by omega, by omega, fun E nE => ?_⟩
    have Eb : E ≠ b := g6.nb nE
    have Ec : E ≠ c := fun z => by obtain ⟨_, _, _, _, g⟩ := g6; rw [z, g.c] at nE; cases nE
    refine lc_it walk_range (fun i H' => But b H6 H' ∧ Bag H' b c ∧ ∃ ms : List Bool, H' E = some (.lst ((ms.map sgn).map V.str)) ∧ ms.length = i) ⟨But.of (same_new nE), g6.same (same_new nE), [], upd_same, rfl⟩ (fun _ _ _ _ => trivial) ?_ ?_
    · rintro i x HA H' hi ⟨S4, gA, ms, hm, hml⟩ ⟨rfl, rfl⟩
      refine ⟨rfl, _, rfl, by show 2 ≤ sizeLine; decide, fun L HB nL SB eL => ⟨_, rfl, _, _, rfl, rfl, by show (0 : Int) < 2; decide, ?_⟩⟩
      obtain ⟨mm, hmm, emm⟩ : ∃ mm : Int, (mm = 2 ∨ mm = 3) ∧ atI [V.int 2, V.int 3] (way % 2) = some (.int mm) ∧ (mm = 3 → way ≠ 4) := by
        obtain e | e : way % 2 = 0 ∨ way % 2 = 1 := by omega
        · exact ⟨2, .inl rfl, by rw [e]; rfl, fun z => absurd z (by decide)⟩
        · exact ⟨3, .inr rfl, by rw [e]; rfl, fun _ z => by rw [z] at e; exact absurd e (by decide)⟩
      have gB := gA.same SB
      refine ⟨L, _, _, _, rfl, rfl, SqL.of eL, emm.1, b, c, mm, rfl, gB, by omega, by omega, fun v HC v0 v1 sC gC => ?_⟩
      obtain ⟨bb, eb⟩ : ∃ bb, atI ("..a" : Str).cps.toList (v + (if decide (V.int way = V.int 4) = true then 1 else 0)) = some (code bb) := by
        have hz : ∃ z : Int, v + (if decide (V.int way = V.int 4) = true then 1 else 0) = z ∧ (z = 0 ∨ z = 1 ∨ z = 2) := by
          by_cases w4 : way = 4
          · rw [if_pos (by rw [w4]; exact decide_eq_true rfl)]
            rcases hmm with rfl | rfl
            · exact ⟨_, rfl, by omega⟩
            · exact absurd w4 (emm.2 rfl)
          · rw [if_neg (by simpa using w4)]
            exact ⟨_, rfl, by omega⟩
        obtain ⟨z, ez, hz⟩ := hz
        rw [ez]
        rcases hz with rfl | rfl | rfl
        · exact ⟨true, by decide +kernel⟩
        · exact ⟨true, by decide +kernel⟩
        · exact ⟨false, by decide +kernel⟩
      have hmC := sC _ _ Eb (SB _ _ hm)
      refine ⟨_, rfl, rfl, .inr ⟨_, rfl, _, _, rfl, rfl, _, _, _, rfl, rfl, by show 3 ≤ sizeLine; decide, eb, _, hmC, ?_, ((S4.same SB).trans sC).mut nE, gC.put Eb Ec, ms ++ [bb], ?_, by simp [hml]⟩⟩
      · rw [List.length_map, List.length_map]; exact small1000 (by omega)
      · rw [upd_same, List.map_append, List.map_append, show V.str ⟨#[code bb]⟩ = V.str (sgn bb) by cases bb <;> decide +kernel]; rfl
    · rintro HA ⟨S4, gA, ms, hm, hml⟩
      refine ⟨_, E, ms.map sgn, rfl, rfl, .inl (SqL.of hm), ?_, ?_⟩
      · rw [sum_ones]
        show ms.length + (ms.map sgn).length * 0 ≤ 16777216
        have : m ≤ 1000 := by omega
        omega
      rw [join_row]
      exact q _ HA (B06.trans S4) gA (by omega)
end
end WH

set_option maxHeartbeats 4000000
namespace WH
open PySem PySem.Spec PyProof.Rows L2
theorem But.tup {H H' : Hp} {b c : Addr} (g : Bag H b c) (s : But b H H') : Tup H H' := fun a vs h => s a _ (fun z => by
  obtain ⟨_, _, _, _, g⟩ := g
  rw [z, g.b] at h; cases h) h
theorem Bag.nc {H : Hp} {b c p : Addr} (g : Bag H b c) (n : H p = none) : p ≠ c := fun z => by
  obtain ⟨_, _, _, _, g⟩ := g
  rw [z, g.c] at n; cases n
theorem But.free {H H' : Hp} {b c p : Addr} (g : Bag H' b c) (s : But b H H') (n : H' p = none) : H p = none := by
  cases h : H p with
  | none => rfl
  | some o => rw [s p o (g.nb n) h] at n; cases n
theorem pick4V {a b c d : V} {v : Int} (h0 : 0 ≤ v) (h1 : v < 4) : ∃ y, (y = a ∨ y = b ∨ y = c ∨ y = d) ∧ atI [a, b, c, d] v = some y := by
  obtain rfl | rfl | rfl | rfl : v = 0 ∨ v = 1 ∨ v = 2 ∨ v = 3 := by omega
  · exact ⟨a, by simp, rfl⟩
  · exact ⟨b, by simp, rfl⟩
  · exact ⟨c, by simp, rfl⟩
  · exact ⟨d, by simp, rfl⟩
theorem WaneN.but {K : PySem.W.Frag} {D : Addr} {H H' : Hp} {b c : Addr} (g : Bag H b c) (s : But b H H') {a : Addr} {w : WN} (x : WaneN K D H a w) : WaneN K D H' a w := by
  obtain ⟨dx, h, t, n1, n2, n3, e, s1, s2, ok⟩ := x
  refine ⟨dx, h, t, n1, n2, n3, s _ _ (fun z => ?_) e, s1.but g s, s2.but g s, ok⟩
  obtain ⟨_, _, _, _, g⟩ := g
  rw [z, g.b] at e; cases e
def PartN (K : PySem.W.Frag) (D : Addr) (H : Hp) (v : V) (p : Part) : Prop := ∃ t a sv, v = .ref t ∧ H t = some (.tup [.ref a, .str (rowS p.row), .int (p.since : Nat), .int p.low, .int p.high, sv]) ∧ WaneN K D H a p.w ∧ SeenV sv p.seen ∧ okPt p
theorem PartN.v {K : PySem.W.Frag} {D : Addr} {H : Hp} {v : V} {p : Part} : PartN K D H v p → PartV K H v p := fun ⟨t, a, sv, e, h, hw, hs, ok⟩ => ⟨t, a, sv, e, h, hw.at_, hs, ok⟩
theorem PartN.mono {K : PySem.W.Frag} {D : Addr} {H H' : Hp} (s : Same H H') {v : V} {p : Part} : PartN K D H v p → PartN K D H' v p := fun ⟨t, a, sv, e, h, hw, hs, ok⟩ => ⟨t, a, sv, e, s _ _ h, hw.mono s, hs, ok⟩
theorem PartN.but {K : PySem.W.Frag} {D : Addr} {H H' : Hp} {b c : Addr} (g : Bag H b c) (s : But b H H') {v : V} {p : Part} : PartN K D H v p → PartN K D H' v p := fun ⟨t, a, sv, e, h, hw, hs, ok⟩ => by
  refine ⟨t, a, sv, e, s _ _ (fun z => ?_) h, hw.but g s, hs, ok⟩
  obtain ⟨_, _, _, _, g⟩ := g
  rw [z, g.b] at h; cases h
theorem PartN.updL {K : PySem.W.Frag} {D : Addr} {H : Hp} {vs : List V} {o : HO} (hD : H D = some (.lst vs)) {v : V} {p : Part} : PartN K D H v p → PartN K D (L2.upd H D o) v p := fun ⟨t, a, sv, e, h, hw, hs, ok⟩ =>
  ⟨t, a, sv, e, by rw [upd_ne (fun z => by rw [z, hD] at h; cases h)]; exact h, hw.updL hD, hs, ok⟩
section
variable {P : Program} {w : World} {K : PySem.W.Frag} {mg : Str → Option Value} {base : Heap}
def spParts (K : PySem.W.Frag) : Sp := fun vs H Q _ => ∃ b c, vs = [.ref b] ∧ Bag H b c ∧ ∀ l ps H', But b H H' → Bag H' b c → H l = none → PartsV K H' l ps → 1 ≤ ps.length → ps.length ≤ 4 → Q (.ref l) H'
theorem cal__law_parts (T : Txt K mg) : C8.Cal P w K mg base 9 "_law_parts" (spParts K) [] := by
  refine calD T.f__law_parts T.g__law_parts sc__law_parts (fun fd F => F.bindsN fun _ _ _ _ _ _ us hl => match us, hl with | [_], _ => rfl) (fun vs H Q E h => by obtain ⟨_, _, rfl, _⟩ := h; rfl) fun cdv A outer s H vs Q E hr h => ?_
  refine ⟨_, (pss_cons (ps_set (i := 1) sc__law_parts.nd rfl (by first | exact Or.inl rfl | exact Or.inr rfl) (C8.pe_c (cal__law_plan T) hr (by decide) rfl (pa_cons (pv 0) (pa_cons pe_int pa_nil)))) (pss_cons (ps_set (i := 2) sc__law_parts.nd rfl (by first | exact Or.inl rfl | exact Or.inr rfl) (C8.pe_c (cal__law_made T) hr (by decide) rfl (pa_cons (pv 1) pa_nil))) (pss_cons (ps_set (i := 3) sc__law_parts.nd rfl (by first | exact Or.inl rfl | exact Or.inr rfl) (NW.pe_lstN pa_nil)) (pss_cons (ps_for PassesOwn.never rfl (pi_range1 (by rfl) T.b_range (pa_cons (pe_op op_add pe_int (C8.pe_c (cal__law_take T) hr (by decide) rfl (pa_cons (pv 0) (pa_cons pe_int pa_nil)))) pa_nil)) (pg_name (i := 4) sc__law_parts.nd rfl (by first | exact Or.inl rfl | exact Or.inr rfl)) (C8.pss_cut (ps_if (PW.pt (pw_and (pt_cmpR op_gt (pv 4) pe_int (nomark _)) (pw_and1 (pt_cmpR op_eq (C8.pe_c (cal__law_take T) hr (by decide) rfl (pa_cons (pv 0) (pa_cons pe_int pa_nil))) pe_int (nomark _))))) (pss_cons (ps_set (i := 1) sc__law_parts.nd rfl (by first | exact Or.inl rfl | exact Or.inr rfl) (C8.pe_c (cal__law_plan T) hr (by decide) rfl (pa_cons (pv 0) (pa_cons pe_int pa_nil)))) (pss_one (ps_set (i := 2) sc__law_parts.nd rfl (by first | exact Or.inl rfl | exact Or.inr rfl) (C8.pe_c (cal__law_made T) hr (by decide) rfl (pa_cons (pv 1) pa_nil))))) pss_nil) (C8.pss_cut (ps_set (i := 5) sc__law_parts.nd rfl (by first | exact Or.inl rfl | exact Or.inr rfl) (C8.pe_c (cal__law_number T) hr (by decide) rfl (pa_cons (pv 0) (pa_cons (pe_ix ix_tup (pv 1) pe_int (fun _ _ => rfl)) pa_nil)))) (C8.pss_cut (ps_set (i := 6) sc__law_parts.nd rfl (by first | exact Or.inl rfl | exact Or.inr rfl) (pe_op op_sub (pe_op op_add (pv 5) (C8.pe_c (cal__law_number T) hr (by decide) rfl (pa_cons (pv 0) (pa_cons (pe_op op_add (pe_op op_sub (pe_ix ix_tup (pv 1) pe_int (fun _ _ => rfl)) (pv 5)) pe_int) pa_nil)))) pe_int)) (C8.pss_cut (ps_set (i := 7) sc__law_parts.nd rfl (by first | exact Or.inl rfl | exact Or.inr rfl) (pe_ix ix_list (NW.pe_lstN (pa_cons pe_non (pa_cons pe_str (pa_cons pe_int (pa_cons (pv 5) pa_nil))))) (C8.pe_c (cal__law_take T) hr (by decide) rfl (pa_cons (pv 0) (pa_cons pe_int pa_nil))) (fun _ _ => rfl))) (pss_one (ps_expr (pe_bm PySem.F.plainAttrs_list PySem.F.slot_list_append PySem.F.type_list_append mt_append (pv 3) (pa_cons (NW.pe_tupN (pa_cons (pv 2) (pa_cons (C8.pe_c (cal__law_signs T) hr (by decide) rfl (pa_cons (pv 0) (pa_cons pe_int pa_nil))) (pa_cons (C8.pe_c (cal__law_take T) hr (by decide) rfl (pa_cons (pv 0) (pa_cons pe_int pa_nil))) (pa_cons (pv 5) (pa_cons (pv 6) (pa_cons (pv 7) pa_nil))))))) pa_nil))))))))) (pss_one (ps_ret (pv 3))))))), ?_⟩
  obtain ⟨b, c, rfl, g, q⟩ := h
  refine ⟨_, rfl, b, c, 20, rfl, by decide, by decide, g, fun pv pw H1 s1 g1 hpv okp => ?_⟩
  refine ⟨_, rfl, pv, pw, rfl, hpv, okp.ok, fun aw H2 S2 hw _ => ?_⟩
  refine ⟨by show 0 ≤ sizeLine; decide, fun D H3 nD S3 hD => ?_⟩
  have g3 := (g1.same S2).same S3
  obtain ⟨pp, ah, at_, rfl, hpp, _⟩ := id hpv
  have Db : D ≠ b := (g1.same S2).nb nD
  have Dc : D ≠ c := (g1.same S2).nc nD
  have hwN : WaneN K D H3 aw pw := by
    obtain ⟨dx, h, t, e, ⟨vh, h1, p1⟩, ⟨vt, h2, p2⟩, ok⟩ := hw
    exact ⟨dx, h, t, fun z => by (rw [z, nD] at e; cases e), fun z => by (rw [z, nD] at h1; cases h1), fun z => by (rw [z, nD] at h2; cases h2), S3 _ _ e, ⟨vh, S3 _ _ h1, Paired.mapP p1 fun _ _ => StepV.mono S3⟩, ⟨vt, S3 _ _ h2, Paired.mapP p2 fun _ _ => StepV.mono S3⟩, ok⟩
  have B3 : But b H H3 := (s1.same S2).same S3
  have D0 : H D = none := by
    cases h : H D with
    | none => rfl
    | some o => rw [S2 _ _ (s1 _ _ Db h)] at nD; cases nD
  refine ⟨_, rfl, b, c, 4, rfl, g3, by decide, by decide, fun v H4 a1 a2 s4 g4 => ⟨_, _, rfl, rfl, _, rfl, by omega, by omega, ?_⟩⟩
  refine for_it walk_range (fun i σ H' => But b H H' ∧ Bag H' b c ∧ ∃ vs ps pp x0 x1 x3 x4 pw aw o4 o5 o6 o7, H' D = some (.lst vs) ∧ Paired (PartN K D H') vs ps ∧ ps.length = i ∧ H' pp = some (.tup [x0, x1, .int pw.cap, x3, x4]) ∧ okP pw ∧ WaneN K D H' aw pw ∧ σ = [some (.ref b), some (.ref pp), some (.ref aw), some (.ref D), o4, o5, o6, o7])
    ⟨B3.trans s4, g4, [], [], pp, _, _, _, _, pw, aw, _, _, _, _, s4 _ _ Db hD, .nil, rfl, But.tup g3 s4 _ _ (S3 _ _ (S2 _ _ hpp)), okp, hwN.but g3 s4, rfl⟩ (fun _ _ _ _ _ => trivial) ?_ ?_
  · clear hwN hw hpv okp hpp
    rintro i x σ H5 H6 hi ⟨B6, g6, vs, ps, pp, x0, x1, x3, x4, pw, aw, o4, o5, o6, o7, hD6, pN, lp, hpp, okp, hw, rfl⟩ ⟨rfl, rfl⟩
    refine ⟨fun σ H' => But b H6 H' ∧ Bag H' b c ∧ ∃ pp x0 x1 x3 x4 pw aw, H' pp = some (.tup [x0, x1, .int pw.cap, x3, x4]) ∧ okP pw ∧ WaneN K D H' aw pw ∧ σ = [some (.ref b), some (.ref pp), some (.ref aw), some (.ref D), some (.int (0 + i)), o5, o6, o7], ?_, ?_⟩
    · refine ⟨_, rfl, _, _, rfl, rfl, _, rfl, ite2 (fun z => ?_) fun z => ?_⟩
      · refine ⟨_, rfl, b, c, 2, rfl, g6, by decide, by decide, fun v2 H7 c1 c2 s7 g7 => ⟨rfl, _, rfl, ite2 (fun _ => ?_) fun _ => ?_⟩⟩
        · refine ⟨_, rfl, b, c, 20, rfl, by decide, by decide, g7, fun pv pw' H8 s8 g8 hpv okp' => ?_⟩
          obtain ⟨pp', ah', at', rfl, hpp', _⟩ := id hpv
          have hD8 := s8 _ _ Db (s7 _ _ Db hD6)
          refine ⟨_, rfl, .ref pp', pw', rfl, hpv, okp'.ok, fun aw' H9 S9 _ hn => ?_⟩
          exact ⟨(s7.trans s8).same S9, g8.same S9, pp', _, _, _, _, pw', aw', S9 _ _ hpp', okp', hn D (by rw [hD8]; exact fun z => nomatch z), rfl⟩
        · exact ⟨s7, g7, pp, _, _, _, _, pw, aw, But.tup g6 s7 _ _ hpp, okp, hw.but g6 s7, rfl⟩
      · exact iteF ⟨But.refl _ _, g6, pp, _, _, _, _, pw, aw, hpp, okp, hw, rfl⟩
    clear hw okp hpp pp x0 x1 x3 x4 pw aw
    rintro σ H7 ⟨s7, g7, pp, x0, x1, x3, x4, pw, aw, hpp, okp, hw, rfl⟩
    have k1 := okp.c1
    have k2 := okp.c2
    refine ⟨fun σ H' => But b H7 H' ∧ Bag H' b c ∧ ∃ low, 1 ≤ low ∧ low ≤ pw.cap ∧ σ = [some (.ref b), some (.ref pp), some (.ref aw), some (.ref D), some (.int (0 + i)), some (.int low), o6, o7], ?_, ?_⟩
    · exact ⟨_, rfl, _, rfl, pp, _, _, _, rfl, rfl, SqT.of hpp, rfl, b, c, _, rfl, k1, by omega, g7, fun low H8 s8 g8 l1 l2 => ⟨s8, g8, low, l1, l2, rfl⟩⟩
    rintro σ H8 ⟨s8, g8, low, l1, l2, rfl⟩
    have hpp8 := But.tup g7 s8 _ _ hpp
    refine ⟨fun σ H' => But b H8 H' ∧ Bag H' b c ∧ ∃ high, low ≤ high ∧ high ≤ pw.cap ∧ σ = [some (.ref b), some (.ref pp), some (.ref aw), some (.ref D), some (.int (0 + i)), some (.int low), some (.int high), o7], ?_, ?_⟩
    · exact ⟨_, rfl, _, rfl, _, rfl, pp, _, _, _, rfl, rfl, SqT.of hpp8, rfl, _, rfl, _, _, rfl, rfl, _, _, rfl, rfl, b, c, _, rfl, by omega, by omega, g8, fun hi_ H9 s9 g9 h1 h2 => ⟨_, _, rfl, rfl, _, _, rfl, rfl, s9, g9, low + hi_ - 1, by omega, by omega, rfl⟩⟩
    rintro σ H9 ⟨s9, g9, high, h1, h2, rfl⟩
    refine ⟨fun σ H' => But b H9 H' ∧ Bag H' b c ∧ ∃ sv sn, SeenV sv sn ∧ σ = [some (.ref b), some (.ref pp), some (.ref aw), some (.ref D), some (.int (0 + i)), some (.int low), some (.int high), some sv], ?_, ?_⟩
    · refine ⟨_, rfl, by show 4 ≤ sizeLine; decide, fun L HA nL SA eL => ⟨_, rfl, b, c, 4, rfl, g9.same SA, by decide, by decide, fun v HB y0 y1 sB gB => ?_⟩⟩
      obtain ⟨y, hy, ey⟩ := pick4V (a := .non) (b := .str "there") (c := .int 0) (d := .int low) y0 y1
      refine ⟨L, _, _, _, rfl, rfl, SqL.of (sB _ _ (g9.nb nL) eL), ey, (But.of SA).trans sB, gB, y, ?_⟩
      rcases hy with rfl | rfl | rfl | rfl
      · exact ⟨.non, rfl, rfl⟩
      · exact ⟨.there, rfl, rfl⟩
      · exact ⟨.num 0, ⟨rfl, by decide, by decide⟩, rfl⟩
      · exact ⟨.num low, ⟨rfl, by omega, by omega⟩, rfl⟩
    rintro σ HA ⟨sA, gA, sv, sn, hsn, rfl⟩
    have B7A := (s8.trans s9).trans sA
    have B6A := s7.trans B7A
    have hDA := B6A _ _ Db hD6
    refine ⟨_, rfl, .inl ⟨rfl, _, SqL.of hDA⟩, _, rfl, _, rfl, b, c, 20, rfl, by decide, by decide, gA, fun l HB sB gB ll => ?_⟩
    refine ⟨_, rfl, b, c, 30, rfl, gB, by decide, by decide, fun v HC y0 y1 sC gC => ?_⟩
    obtain ⟨n, rfl⟩ := Int.eq_ofNat_of_zero_le y0
    refine ⟨_, rfl, _, rfl, _, rfl, by show 6 ≤ sizeLine; decide, fun t HD nt SD et => ?_⟩
    have B7D := ((B7A.trans sB).trans sC).same SD
    have B6D := s7.trans B7D
    have hDD := B6D _ _ Db hD6
    refine ⟨D, _, _, rfl, rfl, hDD, ?_, (B6.trans B6D).mut D0, (gC.same SD).put Db Dc, _, ps ++ [⟨pw, l, n, low, high, sn⟩], pp, x0, x1, x3, x4, pw, aw, _, _, _, _, upd_same, ?_, by simp [lp], ?_, okp, (hw.but g7 B7D).updL hDD, rfl⟩
    · have := paired_len pN
      exact small1000 (by omega)
    · refine paired_snoc (Paired.mapP pN fun _ _ h => (PartN.but g6 B6D h).updL hDD) ?_
      exact PartN.updL hDD ⟨t, aw, sv, rfl, et, hw.but g7 B7D, hsn, ⟨by show l.length ≤ 200; omega, by show (n : Int) ≤ _; omega, l1, h1, h2⟩⟩
    · have hz := But.tup g7 B7D _ _ hpp
      rw [upd_ne (fun z => by rw [z, hDD] at hz; cases hz)]
      exact hz
  · rintro σ H5 ⟨B5, g5, vs, ps, _, _, _, _, _, _, _, _, _, _, _, hD5, pN, lp, _, _, _, rfl⟩
    exact ⟨_, rfl, q D ps H5 B5 g5 D0 ⟨vs, hD5, Paired.mapP pN fun _ _ => PartN.v⟩ (by omega) (by omega)⟩
end
end WH

set_option maxHeartbeats 4000000
namespace WH
open PySem PySem.Spec PyProof.Rows L2
def DueV (H : Hp) (v : V) : Due → Prop
  | .parted row => ∃ t, v = .ref t ∧ H t = some (.tup [.str "parted", .str (rowS row)])
  | .alike R => ∃ t l us, v = .ref t ∧ H t = some (.tup [.str "alike", .ref l]) ∧ H l = some (.lst us) ∧ Paired (RowV H) us R
  | .refused m => ∃ t, v = .ref t ∧ H t = some (.tup [.str "refused", .int (m : Nat)])
theorem DueV.mono {H H' : Hp} (s : Same H H') {v : V} : ∀ {o : Due}, DueV H v o → DueV H' v o
  | .parted _, ⟨t, e, h⟩ => ⟨t, e, s _ _ h⟩
  | .alike _, ⟨t, l, us, e, h, h2, h3⟩ => ⟨t, l, us, e, s _ _ h, s _ _ h2, Paired.mapP h3 fun _ _ => RowV.tup (Tup.of s)⟩
  | .refused _, ⟨t, e, h⟩ => ⟨t, e, s _ _ h⟩
/-- .. the told list new since H0 -/
def DueN (H0 H : Hp) (v : V) : Due → Prop
  | .alike R => ∃ t l us, v = .ref t ∧ H0 l = none ∧ H t = some (.tup [.str "alike", .ref l]) ∧ H l = some (.lst us) ∧ Paired (RowV H) us R
  | o => DueV H v o
theorem DueN.v {H0 H : Hp} {v : V} : ∀ {o : Due}, DueN H0 H v o → DueV H v o
  | .parted _, h => h
  | .alike _, ⟨t, l, us, e, _, h, h2, h3⟩ => ⟨t, l, us, e, h, h2, h3⟩
  | .refused _, h => h
theorem DueN.up {H0 H1 H : Hp} (s : Same H0 H1) {v : V} : ∀ {o : Due}, DueN H1 H v o → DueN H0 H v o
  | .parted _, h => h
  | .alike _, ⟨t, l, us, e, n, h, h2, h3⟩ => ⟨t, l, us, e, s.free n, h, h2, h3⟩
  | .refused _, h => h
/-! ### what is told, as data -/
def rowD (r : Row) : PyData := .tuple [.str (rowS r.1), stD r.2.1, stD r.2.2]
def dueD : Due → PyData
  | .parted row => .tuple [.str "parted", .str (rowS row)]
  | .alike R => .tuple [.str "alike", .list (R.map rowD)]
  | .refused m => .tuple [.str "refused", .int (m : Nat)]
theorem rowD_dp {K : PySem.W.Frag} {H : Hp} {vs : List V} {R : List Row} (p : Paired (RowV H) vs R) : DpAll K H vs (R.map rowD) := by
  induction p with
  | nil => exact .nil
  | cons r _ ih =>
    obtain ⟨a, v1, v2, rfl, h, h1, h2⟩ := r
    exact .cons (.tup (SqT.of h) (.cons (.str _) (.cons (stD_dp h1) (.cons (stD_dp h2) .nil)))) ih
theorem dueD_dp {K : PySem.W.Frag} {H : Hp} {v : V} : ∀ {o : Due}, DueV H v o → Dp K H v (dueD o)
  | .parted _, ⟨t, e, h⟩ => by subst e; exact .tup (SqT.of h) (.cons (.str _) (.cons (.str _) .nil))
  | .alike _, ⟨t, l, us, e, h, h2, h3⟩ => by subst e; exact .tup (SqT.of h) (.cons (.str _) (.cons (.lst (SqL.of h2) (rowD_dp h3)) .nil))
  | .refused _, ⟨t, e, h⟩ => by subst e; exact .tup (SqT.of h) (.cons (.str _) (.cons (.int _) .nil))
/-- small enough to be shown -/
structure Few (d : PyData) (k : Nat) : Prop where
  a : d.showable = true
  b : d.hasDict = false
  c : d.depth ≤ 20
  e : d.leavesShort 13 = true
  w : d.weight ≤ k
theorem rowS_leaf (l : List Bool) : (PyData.str (rowS l)).leavesShort 13 = true := by
  show (rowS l).cps.toList.all (fun c => decide (c < 16 ^ 8)) = true
  rw [List.all_eq_true]
  intro c hc
  have : c ∈ l.map code := by simpa [rowS, SX.S] using hc
  obtain ⟨b, _, rfl⟩ := List.mem_map.mp this
  cases b <;> decide
theorem stD_few {st : Stt} (h : okU st) : Few (stD st) 140 := by
  match st, h with
  | none, _ => exact ⟨rfl, rfl, by simp [stD, PyData.depth], rfl, by simp [stD, PyData.weight]⟩
  | some (s, n), ⟨hs, hn⟩ =>
    have hn2 : small ((n : Nat) : Int) := ⟨by omega, by omega⟩
    refine ⟨?_, rfl, ?_, ?_, ?_⟩
    · show (decide (s.natAbs.log2 < 1920) && (decide (((n : Nat) : Int).natAbs.log2 < 1920) && true)) = true
      rw [small_log hs, small_log hn2]; rfl
    · simp [stD, PyData.depth, PyData.depthAll]
    · show (decide ((PyData.shown (.int s)).length ≤ 13) && (decide ((PyData.shown (.int (n : Nat))).length ≤ 13) && true)) = true
      rw [small_short hs, small_short hn2]; rfl
    · show (if s == 0 then 0 else s.natAbs.log2 + 1) + 1 + ((if ((n : Nat) : Int) == 0 then 0 else ((n : Nat) : Int).natAbs.log2 + 1) + 1 + 0) ≤ 140
      have := small_weight hs
      have := small_weight hn2
      omega
def fewRow (r : Row) : Prop := okU r.2.1 ∧ okU r.2.2 ∧ r.1.length ≤ 400
theorem rowD_few {r : Row} (h : fewRow r) : Few (rowD r) 700 := by
  obtain ⟨h1, h2, h3⟩ := h
  have a := stD_few h1
  have b := stD_few h2
  refine ⟨?_, ?_, ?_, ?_, ?_⟩
  · show (true && ((stD r.2.1).showable && ((stD r.2.2).showable && true))) = true
    rw [a.a, b.a]; rfl
  · show (false || ((stD r.2.1).hasDict || ((stD r.2.2).hasDict || false))) = false
    rw [a.b, b.b]; rfl
  · have := a.c
    have := b.c
    show PyData.depth (.tuple [.str _, stD r.2.1, stD r.2.2]) ≤ 20
    have a4 : (stD r.2.1).depth ≤ 1 := by cases r.2.1 <;> simp [stD, PyData.depth, PyData.depthAll]
    have b4 : (stD r.2.2).depth ≤ 1 := by cases r.2.2 <;> simp [stD, PyData.depth, PyData.depthAll]
    simp only [PyData.depth, PyData.depthAll]; omega
  · show ((PyData.str (rowS r.1)).leavesShort 13 && ((stD r.2.1).leavesShort 13 && ((stD r.2.2).leavesShort 13 && true))) = true
    rw [rowS_leaf, a.e, b.e]; rfl
  · show (rowS r.1).cps.size + 1 + ((stD r.2.1).weight + 1 + ((stD r.2.2).weight + 1 + 0)) ≤ 700
    have := a.w
    have := b.w
    have : (rowS r.1).cps.size = r.1.length := rowS_size _
    omega
theorem rowD_depth (r : Row) : (rowD r).depth ≤ 4 := by
  have a4 : (stD r.2.1).depth ≤ 1 := by cases r.2.1 <;> simp [stD, PyData.depth, PyData.depthAll]
  have b4 : (stD r.2.2).depth ≤ 1 := by cases r.2.2 <;> simp [stD, PyData.depth, PyData.depthAll]
  simp only [rowD, PyData.depth, PyData.depthAll]; omega
theorem rowsD_few : ∀ {R : List Row}, (∀ r ∈ R, fewRow r) → PyData.showableAll (R.map rowD) = true ∧ PyData.hasDictAll (R.map rowD) = false ∧ PyData.depthAll (R.map rowD) ≤ 4 ∧ PyData.leavesShortAll 13 (R.map rowD) = true ∧ PyData.weightAll (R.map rowD) ≤ 701 * R.length
  | [], _ => ⟨rfl, rfl, by simp [PyData.depthAll], rfl, by simp [PyData.weightAll]⟩
  | r :: R, h => by
    obtain ⟨a1, a2, a3, a4, a5⟩ := rowsD_few fun q hq => h q (List.mem_cons_of_mem _ hq)
    have b := rowD_few (h r (List.mem_cons_self ..))
    have d := rowD_depth r
    refine ⟨?_, ?_, ?_, ?_, ?_⟩
    · show ((rowD r).showable && PyData.showableAll (R.map rowD)) = true
      rw [b.a, a1]; rfl
    · show ((rowD r).hasDict || PyData.hasDictAll (R.map rowD)) = false
      rw [b.b, a2]; rfl
    · simp only [List.map_cons, PyData.depthAll]; omega
    · show ((rowD r).leavesShort 13 && PyData.leavesShortAll 13 (R.map rowD)) = true
      rw [b.e, a4]; rfl
    · show (rowD r).weight + 1 + PyData.weightAll (R.map rowD) ≤ 701 * (R.length + 1)
      have := b.w
      omega
def fewDue : Due → Prop
  | .parted row => row.length ≤ 400
  | .alike R => R.length ≤ 400 ∧ ∀ r ∈ R, fewRow r
  | .refused m => m ≤ 400
theorem dueD_few : ∀ {o : Due}, fewDue o → Few (dueD o) 300000
  | .parted row, h => by
    refine ⟨rfl, rfl, by simp [dueD, PyData.depth, PyData.depthAll], ?_, ?_⟩
    · show ((PyData.str "parted").leavesShort 13 && ((PyData.str (rowS row)).leavesShort 13 && true)) = true
      rw [rowS_leaf]; decide +kernel
    · show ("parted" : Str).cps.size + 1 + ((rowS row).cps.size + 1 + 0) ≤ 300000
      have : (rowS row).cps.size = row.length := rowS_size _
      have : ("parted" : Str).cps.size = 6 := by decide +kernel
      have h : row.length ≤ 400 := h
      omega
  | .alike R, ⟨h1, h2⟩ => by
    obtain ⟨a1, a2, a3, a4, a5⟩ := rowsD_few h2
    refine ⟨?_, ?_, ?_, ?_, ?_⟩
    · show (true && (PyData.showableAll (R.map rowD) && true)) = true
      rw [a1]; rfl
    · show (false || (PyData.hasDictAll (R.map rowD) || false)) = false
      rw [a2]; rfl
    · show PyData.depth (.tuple [.str _, .list (R.map rowD)]) ≤ 20
      simp only [PyData.depth, PyData.depthAll]; omega
    · show ((PyData.str "alike").leavesShort 13 && (PyData.leavesShortAll 13 (R.map rowD) && true)) = true
      rw [a4]; decide +kernel
    · show ("alike" : Str).cps.size + 1 + (PyData.weightAll (R.map rowD) + 1 + 0) ≤ 300000
      have : ("alike" : Str).cps.size = 5 := by decide +kernel
      omega
  | .refused m, h => by
    have h : m ≤ 400 := h
    have hm : small ((m : Nat) : Int) := ⟨by omega, by omega⟩
    refine ⟨?_, rfl, by simp [dueD, PyData.depth, PyData.depthAll], ?_, ?_⟩
    · show (true && (decide (((m : Nat) : Int).natAbs.log2 < 1920) && true)) = true
      rw [small_log hm]; rfl
    · show ((PyData.str "refused").leavesShort 13 && (decide ((PyData.shown (.int (m : Nat))).length ≤ 13) && true)) = true
      rw [small_short hm]; decide +kernel
    · show ("refused" : Str).cps.size + 1 + ((if ((m : Nat) : Int) == 0 then 0 else ((m : Nat) : Int).natAbs.log2 + 1) + 1 + 0) ≤ 300000
      have : ("refused" : Str).cps.size = 7 := by decide +kernel
      have := small_weight hm
      omega
theorem isDue_few {w1 w2 : WN} {s f : Int} {m : Nat} {o : Due} (ok : okTwo w1 s w2 f) (hm : m ≤ 400) (d : IsDue w1 w2 s f m o) : fewDue o := by
  have t1 := ok.a.tpos
  have t2 := ok.b.tpos
  have okr := fun k => run_ok (s := s) (f := f) ok.a ok.b ⟨ok.s1, ok.s2, by omega⟩ ⟨ok.f1, ok.f2, by omega⟩ k
  cases d with
  | @parted k row p c hr hp hk =>
    have := (okr k _ (List.mem_of_getElem? hr)).l
    show row.length ≤ 400
    have : row.length ≤ k := this
    omega
  | @alike k c hk hkm =>
    refine ⟨by omega, fun r hr => ?_⟩
    have := okr k r hr
    exact ⟨this.a.u ok.a, this.b.u ok.b, by have := this.l; omega⟩
  | refused c hm2 => exact hm
theorem Few.shows {d : PyData} {k : Nat} (h : Few d k) (hk : k ≤ 1000000) : Shows d := ⟨h.a, h.b, by have := h.c; omega, PyData.shown_fits (B := 13) (by decide) (by decide) h.e (by have := h.w; omega)⟩
theorem dueRef {H : Hp} {v : V} : ∀ {o : Due}, DueV H v o → ∃ t, v = .ref t
  | .parted _, ⟨t, e, _⟩ => ⟨t, e⟩
  | .alike _, ⟨t, _, _, e, _⟩ => ⟨t, e⟩
  | .refused _, ⟨t, e, _⟩ => ⟨t, e⟩

/-- what is due is one -/
theorem due_one {w1 w2 : WN} {s f : Int} {m : Nat} {o o' : Due} (a : IsDue w1 w2 s f m o) (b : IsDue w1 w2 s f m o') : o = o' := by
  have pp : ∀ {k j : Nat} {row : List Bool} {p : Stt × Stt}, Clean w1 w2 s f k → (run w1 w2 s f k)[k]? = some (row, p) → parts p = true → k < j → ¬ Clean w1 w2 s f j := by
    intro k j row p _ h hp kj c
    obtain ⟨r, hr, hq⟩ := c k kj
    rw [h] at hr
    cases hr
    rw [hp] at hq; cases hq
  have aa : ∀ {k j : Nat}, k = (run w1 w2 s f k).length → k < j → ¬ Clean w1 w2 s f j := by
    intro k j hk kj c
    obtain ⟨r, hr, _⟩ := c k kj
    have := (List.getElem?_eq_some_iff.mp hr).1
    omega
  cases a with
  | @parted k row p c hr hp hk =>
    cases b with
    | @parted k' row' p' c' hr' hp' hk' =>
      have : k = k' := Nat.le_antisymm (Nat.le_of_not_lt fun z => pp c' hr' hp' z c) (Nat.le_of_not_lt fun z => pp c hr hp z c')
      subst this
      rw [hr] at hr'
      cases hr'; rfl
    | @alike k' c' hk' hm' =>
      have kl := (List.getElem?_eq_some_iff.mp hr).1
      have : k = k' := Nat.le_antisymm (Nat.le_of_not_lt fun z => aa hk' z c) (Nat.le_of_not_lt fun z => pp c hr hp z c')
      subst this
      omega
    | refused c' hm' => exact absurd c' (pp c hr hp hk)
  | @alike k c hk hm =>
    cases b with
    | @parted k' row' p' c' hr' hp' hk' =>
      have kl := (List.getElem?_eq_some_iff.mp hr').1
      have : k = k' := Nat.le_antisymm (Nat.le_of_not_lt fun z => pp c' hr' hp' z c) (Nat.le_of_not_lt fun z => aa hk z c')
      subst this
      omega
    | @alike k' c' hk' hm' =>
      have : k = k' := Nat.le_antisymm (Nat.le_of_not_lt fun z => aa hk' z c) (Nat.le_of_not_lt fun z => aa hk z c')
      rw [this]
    | refused c' hm' =>
      rcases Nat.lt_or_eq_of_le hm with z | z
      · exact absurd c' (aa hk z)
      · subst z; omega
  | refused c hm =>
    cases b with
    | @parted k' row' p' c' hr' hp' hk' => exact absurd c (pp c' hr' hp' hk')
    | @alike k' c' hk' hm' =>
      rcases Nat.lt_or_eq_of_le hm' with z | z
      · exact absurd c (aa hk' z)
      · subst z; omega
    | refused c' hm' => rfl
section
variable {P : Program} {w : World} {K : PySem.W.Frag} {mg : Str → Option Value} {base : Heap}
theorem call_alike (T : Txt K mg) : ∃ fd g, FnOk P w K mg base (L2.CX P w) 6 (He.fAd K d_alike.at_) fd ["one", "strength", "other", "far", "most"] (spAlike K) ∧ KBn K fd ["one", "strength", "other", "far", "most"] 4 ["most"] g (fun vs zs => vs ++ zs) ∧ PySem.W.keepIn K (.ref (He.fAd K d_alike.at_)) = true := by
  obtain ⟨fd, F⟩ := T.f_alike
  obtain ⟨mv, b⟩ := F.kbinds0 (ps := ["one", "strength", "other", "far", "most"]) 4 ["most"] [] (fun us _ ws => us ++ ws) (by simp [He.DefD.kws, d_alike]) (by simp) (fun r1 r2 r3 => ND.paired_app r1 r3) (fun D doc pm an cdv ct us mv ws l1 l2 l3 => by
    match us, ws, l1, l3 with
    | [_, _, _, _], [_], _, _ => rfl)
  exact ⟨fd, _, fn_alike T F, b, F.kp⟩
theorem call_alike0 (T : Txt K mg) : ∃ fd g, FnOk P w K mg base (L2.CX P w) 6 (He.fAd K d_alike.at_) fd ["one", "strength", "other", "far", "most"] (spAlike K) ∧ KBn K fd ["one", "strength", "other", "far", "most"] 4 [] g (fun vs _ => vs ++ [.int 200]) ∧ PySem.W.keepIn K (.ref (He.fAd K d_alike.at_)) = true := by
  obtain ⟨fd, F⟩ := T.f_alike
  obtain ⟨mv, b⟩ := F.kbinds0 (ps := ["one", "strength", "other", "far", "most"]) 4 [] [("most", .int 200)] (fun us mv _ => us ++ mv) (by simp [He.DefD.kws, d_alike]) (by simp [He.DefD.kws, d_alike, He.Dv.v]) (fun r1 r2 r3 => ND.paired_app r1 r2) (fun D doc pm an cdv ct us mv ws l1 l2 l3 => by
    match us, mv, ws, l1, l2, l3 with
    | [_, _, _, _], [_], [], _, _, _ => exact ⟨_, _, _, _, _, _, rfl, rfl, rfl⟩)
  exact ⟨fd, _, fn_alike T F, b, F.kp⟩


def spToldL : Sp := fun vs H Q _ => ∃ v w1 s w2 f m, vs = [v, .int (m : Nat)] ∧ TwoV H v w1 s w2 f ∧ okTwo w1 s w2 f ∧ 1 ≤ m ∧ m ≤ 199 ∧ ∀ o v' H', Same H H' → IsDue w1 w2 s f m o → DueN H H' v' o → Q v' H'
theorem cal__law_told (T : Txt K mg) : C8.Cal P w K mg base 9 "_law_told" spToldL [] := by
  refine calD T.f__law_told T.g__law_told sc__law_told (fun fd F => F.bindsN fun _ _ _ _ _ _ us hl => match us, hl with | [_, _], _ => rfl) (fun vs H Q E h => by obtain ⟨_, _, _, _, _, _, rfl, _⟩ := h; rfl) fun cdv A outer s H vs Q E hr h => ?_
  refine ⟨_, (pss_cons (ps_asg (pv 0) (pg_tup rfl (pgs_cons (pg_name (i := 2) sc__law_told.nd rfl (by first | exact Or.inl rfl | exact Or.inr rfl)) (pgs_cons (pg_name (i := 3) sc__law_told.nd rfl (by first | exact Or.inl rfl | exact Or.inr rfl)) (pgs_cons (pg_name (i := 4) sc__law_told.nd rfl (by first | exact Or.inl rfl | exact Or.inr rfl)) (pgs_cons (pg_name (i := 5) sc__law_told.nd rfl (by first | exact Or.inl rfl | exact Or.inr rfl)) pgs_nil)))))) (pss_one (ps_try_as (i := 6) (Wout := fun _ _ _ _ => False) rfl rfl sc__law_told.nd rfl rfl ⟨rfl, by decide, Or.inl T.g_TooMany⟩ takes0 (fun W pn xe tk _ => (pss_cons (ps_if (pt_cmpR op_eq (pv 1) pe_int (nomark _)) (pss_one (ps_ret (pe_cNS (call_alike0 T) hr (by decide) rfl T.g_alike (fun σ => passAt tk σ) (pa_cons (C8.pe_c (cal__law_made T) hr (by decide) rfl (pa_cons (pv 2) pa_nil)) (pa_cons (pv 3) (pa_cons (C8.pe_c (cal__law_made T) hr (by decide) rfl (pa_cons (pv 4) pa_nil)) (pa_cons (pv 5) pa_nil)))) pk_nil))) pss_nil) (pss_one (ps_ret (pe_cNS (call_alike T) hr (by decide) rfl T.g_alike (fun σ => passAt tk σ) (pa_cons (C8.pe_c (cal__law_made T) hr (by decide) rfl (pa_cons (pv 2) pa_nil)) (pa_cons (pv 3) (pa_cons (C8.pe_c (cal__law_made T) hr (by decide) rfl (pa_cons (pv 4) pa_nil)) (pa_cons (pv 5) pa_nil)))) (pk_cons (pv 1) pk_nil)))))) (fun a oe cls d pn hz hf => (pss_one (ps_ret (NW.pe_tupN (pa_cons pe_str (pa_cons (pe_xf T.xf_TooMany T.xn_TooMany hz hf (pv 6)) pa_nil))))))))), ?_⟩
  obtain ⟨v, w1, s, w2, f, m, rfl, hv, ok, m1, m2, q⟩ := h
  obtain ⟨p, v1, v2, rfl, hp, p1, p2⟩ := id hv
  refine ⟨_, rfl, p, _, rfl, SqT.of hp, rfl, _, _, rfl, _, _, rfl, _, _, rfl, _, _, rfl, rfl, ?_⟩
  refine ⟨_, rfl, rfl, _, rfl, iteF_of (decide_eq_false (fun z => by injection z with z; omega)) ?_⟩
  refine ⟨_, rfl, v1, w1, rfl, p1, ok.a, fun a1 H5 S5 h1 _ => ⟨_, rfl, _, rfl, v2, w2, rfl, p2.mono S5, ok.b, fun a2 H6 S6 h2 _ => ⟨_, rfl, _, rfl, rfl, rfl, ?_⟩⟩⟩
  have S := S5.trans S6
  refine ⟨a1, w1, s, a2, w2, f, m, rfl, h1.mono S6, h2, ok.s1, ok.s2, ok.f1, ok.f2, m1, by omega, ?_, ?_, ?_⟩
  · intro k row pp H8 t hk hc hrow hpp S8 ht
    exact q (.parted row) _ _ (S.trans S8) (.parted hc hrow hpp hk) ⟨t, rfl, ht⟩
  · intro k H8 t l us hc hk hkm S8 nl ht hl hus
    exact q (.alike (run w1 w2 s f k)) _ _ (S.trans S8) (.alike hc hk hkm) ⟨t, l, us, rfl, S.free nl, ht, hl, hus⟩
  · intro d H8 hc hm S8 hd
    refine ⟨true, T.xi_TooMany.2.2, fun _ x nx => ?_, fun z => (by cases z)⟩
    exact ⟨_, rfl, rfl, rfl, d, _, _, rfl, hd, rfl, by show 2 ≤ sizeLine; decide, fun t H9 nt S9 ht => q (.refused m) _ _ ((S.trans S8).trans S9) (.refused hc hm) ⟨t, rfl, ht⟩⟩
end
end WH

set_option maxHeartbeats 4000000
namespace WH
open PySem PySem.Spec PyProof.Rows L2
/-! ### answers -/
def spanD : Span → PyData
  | none => .none
  | some p => .tuple [.int p.1, .int p.2]
def dueL : Due → List PyData
  | .parted row => [.str "parted", .str (rowS row)]
  | .alike R => [.str "alike", .list (R.map rowD)]
  | .refused m => [.str "refused", .int (m : Nat)]
theorem dueD_l (o : Due) : dueD o = .tuple (dueL o) := by cases o <;> rfl
inductive AnsOf (ss : List Span) (w1 : WN) (s : Int) (w2 : WN) (f : Int) (n : Nat) : Int → PyData → Prop
  | spans : AnsOf ss w1 s w2 f n 0 (.list (ss.map spanD))
  | many : AnsOf ss w1 s w2 f n 1 (.int (manyP ss))
  | list : (n : Int) < manyP ss → AnsOf ss w1 s w2 f n 2 (.list ((listP ss n).map .int))
  | noNumber : ¬ (n : Int) < manyP ss → AnsOf ss w1 s w2 f n 2 (.list [.str "no", .bool true, .bool false])
  | number {r : Int} : numGo ((List.replicate ss.length (1 + (n : Int))).zip ss) 0 = some r → AnsOf ss w1 s w2 f n 3 (.int r)
  | notOne : numGo ((List.replicate ss.length (1 + (n : Int))).zip ss) 0 = none → AnsOf ss w1 s w2 f n 3 (.list [.str "no", .bool false, .bool true])
  | alike {o : Due} : IsDue w1 w2 s f (1 + n) o → AnsOf ss w1 s w2 f n 4 (.list (dueL o))
theorem ans_one {ss : List Span} {w1 : WN} {s : Int} {w2 : WN} {f : Int} {n : Nat} {way : Int} {d d' : PyData} (a : AnsOf ss w1 s w2 f n way d) (b : AnsOf ss w1 s w2 f n way d') : d = d' := by
  cases a with
  | spans => cases b; rfl
  | many => cases b; rfl
  | list h => cases b with
    | list _ => rfl
    | noNumber h' => exact absurd h h'
  | noNumber h => cases b with
    | list h' => exact absurd h' h
    | noNumber _ => rfl
  | number h => cases b with
    | number h' => rw [h] at h'; cases h'; rfl
    | notOne h' => rw [h] at h'; cases h'
  | notOne h => cases b with
    | number h' => rw [h] at h'; cases h'
    | notOne _ => rfl
  | alike h => cases b with
    | alike h' => rw [due_one h h']
/-- one thing of a told list -/
def ItV (H : Hp) (l : Addr) (H' : Hp) (u : V) : Prop := (∃ i, u = .int i) ∨ (∃ b, u = .bl b) ∨ u = .non ∨ (∃ x, u = .str x) ∨ (∃ t xs, u = .ref t ∧ H' t = some (.tup xs)) ∨ ∃ l2 ws, u = .ref l2 ∧ H l2 = none ∧ l2 ≠ l ∧ H' l2 = some (.lst ws) ∧ ws.length ≤ 1000
def AskV (K : PySem.W.Frag) (H H' : Hp) (v : V) (d : PyData) : Prop := (∃ i : Int, v = .int i ∧ d = .int i ∧ i.natAbs.log2 < 1920) ∨ ∃ l us, v = .ref l ∧ H l = none ∧ H' l = some (.lst us) ∧ us.length ≤ 1000 ∧ (∀ u ∈ us, ItV H l H' u) ∧ Dp K H' (.ref l) d ∧ Shows d
theorem ItV.up {H0 H H' : Hp} (s : Same H0 H) {l : Addr} {u : V} (h : ItV H l H' u) : ItV H0 l H' u := by
  rcases h with h | h | h | h | h | ⟨l2, ws, e, n, h⟩
  · exact .inl h
  · exact .inr (.inl h)
  · exact .inr (.inr (.inl h))
  · exact .inr (.inr (.inr (.inl h)))
  · exact .inr (.inr (.inr (.inr (.inl h))))
  · exact .inr (.inr (.inr (.inr (.inr ⟨l2, ws, e, s.free n, h⟩))))
theorem Few.list {xs : List PyData} {k : Nat} (h : Few (.tuple xs) k) : Few (.list xs) k := ⟨h.a, h.b, by have := h.c; simpa [PyData.depth] using this, h.e, h.w⟩
/-! few data of small numbers -/
theorem intsD_few : ∀ {xs : List Int}, (∀ x ∈ xs, small x) → PyData.showableAll (xs.map .int) = true ∧ PyData.hasDictAll (xs.map .int) = false ∧ PyData.depthAll (xs.map .int) ≤ 1 ∧ PyData.leavesShortAll 13 (xs.map .int) = true ∧ PyData.weightAll (xs.map .int) ≤ 65 * xs.length
  | [], _ => ⟨rfl, rfl, by simp [PyData.depthAll], rfl, by simp [PyData.weightAll]⟩
  | x :: xs, h => by
    obtain ⟨a1, a2, a3, a4, a5⟩ := intsD_few fun q hq => h q (List.mem_cons_of_mem _ hq)
    have hx := h x (List.mem_cons_self ..)
    refine ⟨?_, ?_, ?_, ?_, ?_⟩
    · show (decide (x.natAbs.log2 < 1920) && PyData.showableAll (xs.map .int)) = true
      rw [small_log hx, a1]; rfl
    · show (false || PyData.hasDictAll (xs.map .int)) = false
      rw [a2]; rfl
    · simp only [List.map_cons, PyData.depthAll, PyData.depth]; omega
    · show (decide ((PyData.shown (.int x)).length ≤ 13) && PyData.leavesShortAll 13 (xs.map .int)) = true
      rw [small_short hx, a4]; rfl
    · show (if x == 0 then 0 else x.natAbs.log2 + 1) + 1 + PyData.weightAll (xs.map .int) ≤ 65 * (xs.length + 1)
      have := small_weight hx
      omega
theorem spanD_few {sp : Span} (h : okSp sp) : Few (spanD sp) 140 := by
  match sp, h with
  | none, _ => exact ⟨rfl, rfl, by simp [spanD, PyData.depth], rfl, by simp [spanD, PyData.weight]⟩
  | some (a, b), ⟨h1, h2, h3⟩ =>
    have ha : small a := ⟨by dsimp only at h1; omega, by dsimp only at h1 h2 h3; omega⟩
    have hb : small b := ⟨by dsimp only at h1 h2; omega, by dsimp only at h3; omega⟩
    refine ⟨?_, rfl, ?_, ?_, ?_⟩
    · show (decide (a.natAbs.log2 < 1920) && (decide (b.natAbs.log2 < 1920) && true)) = true
      rw [small_log ha, small_log hb]; rfl
    · simp [spanD, PyData.depth, PyData.depthAll]
    · show (decide ((PyData.shown (.int a)).length ≤ 13) && (decide ((PyData.shown (.int b)).length ≤ 13) && true)) = true
      rw [small_short ha, small_short hb]; rfl
    · show (if a == 0 then 0 else a.natAbs.log2 + 1) + 1 + ((if b == 0 then 0 else b.natAbs.log2 + 1) + 1 + 0) ≤ 140
      have := small_weight ha
      have := small_weight hb
      omega
theorem spansD_few : ∀ {ss : List Span}, (∀ s ∈ ss, okSp s) → PyData.showableAll (ss.map spanD) = true ∧ PyData.hasDictAll (ss.map spanD) = false ∧ PyData.depthAll (ss.map spanD) ≤ 20 ∧ PyData.leavesShortAll 13 (ss.map spanD) = true ∧ PyData.weightAll (ss.map spanD) ≤ 141 * ss.length
  | [], _ => ⟨rfl, rfl, by simp [PyData.depthAll], rfl, by simp [PyData.weightAll]⟩
  | r :: R, h => by
    obtain ⟨a1, a2, a3, a4, a5⟩ := spansD_few fun q hq => h q (List.mem_cons_of_mem _ hq)
    have b := spanD_few (h r (List.mem_cons_self ..))
    have bc := b.c
    refine ⟨?_, ?_, ?_, ?_, ?_⟩
    · show ((spanD r).showable && PyData.showableAll (R.map spanD)) = true
      rw [b.a, a1]; rfl
    · show ((spanD r).hasDict || PyData.hasDictAll (R.map spanD)) = false
      rw [b.b, a2]; rfl
    · simp only [List.map_cons, PyData.depthAll]; omega
    · show ((spanD r).leavesShort 13 && PyData.leavesShortAll 13 (R.map spanD)) = true
      rw [b.e, a4]; rfl
    · show (spanD r).weight + 1 + PyData.weightAll (R.map spanD) ≤ 141 * (R.length + 1)
      have := b.w
      omega
theorem list_shows {xs : List PyData} (a : PyData.showableAll xs = true) (b : PyData.hasDictAll xs = false) (c : PyData.depthAll xs ≤ 50) (e : PyData.leavesShortAll 13 xs = true) (w : PyData.weightAll xs ≤ 900000) : Shows (.list xs) :=
  ⟨a, b, by simp only [PyData.depth]; omega, PyData.shown_fits (B := 13) (by decide) (by decide) (d := .list xs) e (by show PyData.weightAll xs ≤ 2 ^ 20; omega)⟩
theorem spanD_dp {K : PySem.W.Frag} {H : Hp} {v : V} : ∀ {o : Span}, SpanV H v o → Dp K H v (spanD o)
  | none, h => by obtain rfl : v = .non := h; exact .non
  | some p, ⟨t, e, h⟩ => by subst e; exact .tup (SqT.of h) (.cons (.int _) (.cons (.int _) .nil))
theorem spansD_dp {K : PySem.W.Frag} {H : Hp} {vs : List V} {ss : List Span} (p : Paired (SpanV H) vs ss) : DpAll K H vs (ss.map spanD) := by
  induction p with
  | nil => exact .nil
  | cons r _ ih => exact .cons (spanD_dp r) ih
theorem intsD_dp {K : PySem.W.Frag} {H : Hp} : ∀ xs : List Int, DpAll K H (xs.map V.int) (xs.map .int)
  | [] => .nil
  | x :: xs => .cons (.int _) (intsD_dp xs)
theorem log_lt {i : Int} (h0 : 0 ≤ i) (h1 : i < 2 ^ 1900) : i.natAbs.log2 < 1920 := by
  by_cases z : i.natAbs = 0
  · rw [z]; decide
  · have := (Nat.log2_lt z (k := 1900)).mpr (by
      have : ((i.natAbs : Nat) : Int) < ((2 ^ 1900 : Nat) : Int) := by
        rw [Int.natAbs_of_nonneg h0]; exact_mod_cast h1
      exact_mod_cast this)
    omega
theorem many_le : ∀ {ss : List Span} {a B : Int}, (∀ s ∈ ss, okSp s) → 0 ≤ a → a ≤ B → 0 ≤ ss.foldl (fun n s => n * widthP s) a ∧ ss.foldl (fun n s => n * widthP s) a ≤ B * 1000000000 ^ ss.length
  | [], a, B, _, h0, h1 => ⟨h0, by simpa using h1⟩
  | s :: ss, a, B, ok, h0, h1 => by
    obtain ⟨w0, w1⟩ := (ok s (List.mem_cons_self ..)).wd
    have := many_le (ss := ss) (a := a * widthP s) (B := B * 1000000000) (fun q hq => ok q (List.mem_cons_of_mem _ hq)) (Int.mul_nonneg h0 w0) (Int.mul_le_mul h1 w1 w0 (by omega))
    refine ⟨this.1, ?_⟩
    rw [List.length_cons, Int.pow_succ', ← Int.mul_assoc]
    exact this.2
theorem go_le : ∀ {zs : List (Int × Span)} {a B r : Int}, (∀ z ∈ zs, okSp z.2) → 0 ≤ a → a + 1 ≤ B → numGo zs a = some r → 0 ≤ r ∧ r + 1 ≤ B * 1000000000 ^ zs.length
  | [], a, B, r, _, h0, h1, e => by cases e; exact ⟨h0, by simpa using h1⟩
  | z :: zs, a, B, r, ok, h0, h1, e => by
    unfold numGo at e
    split at e
    · rename_i hf
      have okz := ok z (List.mem_cons_self ..)
      obtain ⟨x, sp⟩ := z
      cases sp with
      | none => cases hf
      | some p =>
        obtain ⟨w0, w1⟩ := okz.wd
        have hf : (decide (p.1 ≤ x) && decide (x ≤ p.2)) = true := hf
        simp only [Bool.and_eq_true, decide_eq_true_eq] at hf
        have ew : widthP (some p) = p.2 - p.1 + 1 := rfl
        have m1 : (a + 1) * widthP (some p) = a * widthP (some p) + widthP (some p) := by rw [Int.add_mul, Int.one_mul]
        have m2 : (a + 1) * widthP (some p) ≤ B * 1000000000 := Int.mul_le_mul h1 w1 w0 (by omega)
        have m3 : 0 ≤ a * widthP (some p) := Int.mul_nonneg h0 w0
        have := go_le (zs := zs) (a := a * widthP (some p) + x - lowP (some p)) (B := B * 1000000000) (r := r) (fun q hq => ok q (List.mem_cons_of_mem _ hq)) (by show 0 ≤ _ + x - p.1; omega) (by show _ + x - p.1 + 1 ≤ _; omega) e
        refine ⟨this.1, ?_⟩
        rw [List.length_cons, Int.pow_succ', ← Int.mul_assoc]
        exact this.2
    · cases e
theorem big8 {k : Nat} (h : k ≤ 8) : (1 : Int) * 1000000000 ^ k < 2 ^ 1900 := by
  have : (1000000000 : Int) ^ k ≤ 1000000000 ^ 8 := by
    match k, h with
    | 0, _ => decide
    | 1, _ => decide
    | 2, _ => decide
    | 3, _ => decide
    | 4, _ => decide
    | 5, _ => decide
    | 6, _ => decide
    | 7, _ => decide
    | 8, _ => decide
  have e : (1000000000 : Int) ^ 8 < 2 ^ 1900 := by decide +kernel
  rw [Int.one_mul]
  exact Int.lt_of_le_of_lt this e
theorem listP_ok {ss : List Span} (ok : ∀ s ∈ ss, okSp s) (pos : ∀ s ∈ ss, 0 < widthP s) (n : Int) : (∀ x ∈ listP ss n, small x) ∧ (listP ss n).length = ss.length := by
  have key : ∀ (l : List Span) (st : List Int × Int), (∀ s ∈ l, okSp s ∧ 0 < widthP s) → (∀ x ∈ st.1, small x) → ∀ x ∈ (l.foldl stepL st).1, small x := by
    intro l
    induction l with
    | nil => intro st _ h; exact h
    | cons s l ih =>
      intro st hl h
      refine ih _ (fun q hq => hl q (List.mem_cons_of_mem _ hq)) fun x hx => ?_
      rcases List.mem_append.mp hx with hx | hx
      · exact h x hx
      · rw [List.mem_singleton.mp hx]
        obtain ⟨o, p0⟩ := hl s (List.mem_cons_self ..)
        cases s with
        | none => exact absurd p0 (by decide)
        | some p =>
          obtain ⟨h1, h2, h3⟩ := o
          have e1 := Int.emod_nonneg st.2 (Int.ne_of_gt p0)
          have e2 := Int.emod_lt_of_pos st.2 p0
          have ew : widthP (some p) = p.2 - p.1 + 1 := rfl
          exact ⟨by show 0 ≤ p.1 + _; omega, by show p.1 + st.2 % widthP (some p) < _; omega⟩
  refine ⟨fun x hx => ?_, ?_⟩
  · exact key ss.reverse ([], n) (fun s hs => ⟨ok s (List.mem_reverse.mp hs), pos s (List.mem_reverse.mp hs)⟩) (fun x hx => absurd hx (by simp)) x (List.mem_reverse.mp hx)
  · unfold listP
    rw [List.length_reverse, stepL_len, List.length_reverse]
    show 0 + ss.length = ss.length
    omega
end WH

set_option maxHeartbeats 4000000
namespace WH
open PySem PySem.Spec PyProof.Rows L2
theorem spans_it {H : Hp} {l : Addr} {H' : Hp} {us : List V} {ss : List Span} (p : Paired (SpanV H') us ss) : ∀ u ∈ us, ItV H l H' u := by
  induction p with
  | nil => intro u hu; cases hu
  | @cons x s _ _ r _ ih =>
    intro u hu
    rcases List.mem_cons.mp hu with rfl | hu
    · cases s with
      | none => exact .inr (.inr (.inl r))
      | some q => obtain ⟨t, e, h⟩ := r; exact .inr (.inr (.inr (.inr (.inl ⟨t, _, e, h⟩))))
    · exact ih u hu
theorem dueL_dp {K : PySem.W.Frag} {H0 H' : Hp} {v : V} {o : Due} (h : DueN H0 H' v o) (few : fewDue o) : ∃ t xs, v = .ref t ∧ H' t = some (.tup xs) ∧ xs.length ≤ 1000 ∧ (∀ H2, Same H' H2 → DpAll K H2 xs (dueL o)) ∧ ∀ l, H' l = none → ∀ H2, Same H' H2 → ∀ u ∈ xs, ItV H0 l H2 u := by
  cases o with
  | parted row =>
    obtain ⟨t, e, h⟩ := h
    refine ⟨t, _, e, h, by show 2 ≤ 1000; decide, fun _ _ => .cons (.str _) (.cons (.str _) .nil), fun l nl H2 S u hu => ?_⟩
    simp only [List.mem_cons, List.not_mem_nil, or_false] at hu
    rcases hu with rfl | rfl
    · exact .inr (.inr (.inr (.inl ⟨_, rfl⟩)))
    · exact .inr (.inr (.inr (.inl ⟨_, rfl⟩)))
  | refused m =>
    obtain ⟨t, e, h⟩ := h
    refine ⟨t, _, e, h, by show 2 ≤ 1000; decide, fun _ _ => .cons (.str _) (.cons (.int _) .nil), fun l nl H2 S u hu => ?_⟩
    simp only [List.mem_cons, List.not_mem_nil, or_false] at hu
    rcases hu with rfl | rfl
    · exact .inr (.inr (.inr (.inl ⟨_, rfl⟩)))
    · exact .inl ⟨_, rfl⟩
  | alike R =>
    obtain ⟨t, l0, us, e, n0, h, h2, h3⟩ := h
    have lu := paired_len h3
    refine ⟨t, _, e, h, by show 2 ≤ 1000; decide, fun _ S => .cons (.str _) (.cons (.lst (SqL.of (S _ _ h2)) (rowD_dp (Paired.mapP h3 fun _ _ => RowV.tup (Tup.of S)))) .nil), fun l nl H2 S u hu => ?_⟩
    simp only [List.mem_cons, List.not_mem_nil, or_false] at hu
    rcases hu with rfl | rfl
    · exact .inr (.inr (.inr (.inl ⟨_, rfl⟩)))
    · refine .inr (.inr (.inr (.inr (.inr ⟨l0, us, rfl, n0, fun z => ?_, S _ _ h2, ?_⟩))))
      · rw [← z, h2] at nl; cases nl
      · have := few.1
        omega
section
variable {P : Program} {w : World} {K : PySem.W.Frag} {mg : Str → Option Value} {base : Heap}
def spSpoilt (K : PySem.W.Frag) : Sp := fun vs H Q _ => ∃ v, vs = [v] ∧ ((∃ l us, v = .ref l ∧ H l = some (.lst us) ∧ us.length ≤ 2000 ∧ Q .non (upd H l (.lst (us.reverse ++ [.non])))) ∨ ((∃ t, TyX K H v t ∧ t ∈ tys K ∧ isk t (.type "list") = false) ∧ Q .non H))
theorem cal__law_spoilt (T : Txt K mg) : C8.Cal P w K mg base 1 "_law_spoilt" (spSpoilt K) [] := by
  refine calD T.f__law_spoilt T.g__law_spoilt sc__law_spoilt (fun fd F => F.bindsN fun _ _ _ _ _ _ us hl => match us, hl with | [_], _ => rfl) (fun vs H Q E h => by obtain ⟨_, rfl, _⟩ := h; rfl) fun cdv A outer s H vs Q E hr h => ?_
  refine ⟨_, (pss_one (ps_if (pt_val (pe_callB call_isi (by rfl) T.b_isinstance (by decide +kernel) (pa_cons (pv 0) (pa_cons (pe_bltn (v := .ty "list") (by rfl) T.b_list (by decide +kernel) rfl) pa_nil)))) (pss_cons (ps_expr (pe_bm0 PySem.F.plainAttrs_list PySem.F.slot_list_reverse PySem.F.type_list_reverse mt_reverse (pv 0))) (pss_one (ps_expr (pe_bm PySem.F.plainAttrs_list PySem.F.slot_list_append PySem.F.type_list_append mt_append (pv 0) (pa_cons pe_non pa_nil))))) pss_nil)), ?_⟩
  obtain ⟨v, rfl, h⟩ := h
  rcases h with ⟨l, us, rfl, hl, hus, q⟩ | ⟨⟨t, ht, tm, hk⟩, q⟩
  · refine ⟨_, rfl, _, _, .type "list", _, _, rfl, .ty _, .base (.lst hl), T.kit (by simp [tys]) (by simp [cls]), _, rfl, iteT ?_⟩
    refine ⟨_, rfl, .inl ⟨rfl, _, SqL.of hl⟩, l, us, rfl, rfl, hl, ?_⟩
    refine ⟨_, rfl, .inl ⟨rfl, _, SqL.of upd_same⟩, l, us.reverse, .non, rfl, rfl, upd_same, ?_, ?_⟩
    · rw [List.length_reverse]; exact Nat.lt_of_le_of_lt (show us.length ≤ 2000 from hus) (by decide)
    · rw [upd_upd]; exact q
  · refine ⟨_, rfl, _, _, t, _, _, rfl, .ty _, ht, T.kit tm (by simp [cls]), _, rfl, ?_⟩
    rw [hk]
    exact iteF q
theorem Txt.exx (T : Txt K mg) : EI.isxB K (cNN K) = true ∧ EI.isxB K (cNO K) = true ∧ PySem.W.kitOne K (.ref (cNN K)) (.ref (cNN K)) = some true ∧ PySem.W.kitOne K (.ref (cNN K)) (.ref (cNO K)) = some false ∧ PySem.W.kitOne K (.ref (cNO K)) (.ref (cNN K)) = some false ∧ PySem.W.kitOne K (.ref (cNO K)) (.ref (cNO K)) = some true ∧
    PySem.W.exmOne K (.ref (cNN K)) (.ref (He.ga K "WaneError")) = some true ∧ PySem.W.exmOne K (.ref (cNO K)) (.ref (He.ga K "WaneError")) = some true := by
  have e := T.ex 2 (f := exAll) rfl
  simp only [exAll, Bool.and_eq_true, List.all_cons, List.all_nil, Bool.and_true, decide_eq_true_eq] at e
  obtain ⟨e1, e2, ⟨⟨e3, e4⟩, e5, e6⟩, e7, e8⟩ := e
  exact ⟨e1, e2, e3, e4, e5, e6, e7, e8⟩
def spAsked1 (K : PySem.W.Frag) : Sp := fun vs H Q _ => ∃ ao ss vt w1 s w2 f, ∃ way : Int, ∃ n : Nat, vs = [.ref ao, vt, .int way, .int (n : Nat)] ∧ OrigAt K H ao ss ∧ (∀ s ∈ ss, okSp s) ∧ 1 ≤ ss.length ∧ ss.length ≤ 8 ∧ TwoV H vt w1 s w2 f ∧ okTwo w1 s w2 f ∧ 0 ≤ way ∧ way < 5 ∧ n < 40 ∧
  ∀ v d H', Same H H' → AnsOf ss w1 s w2 f n way d → AskV K H H' v d → Q v H'
theorem cal__law_asked (T : Txt K mg) : C8.Cal P w K mg base 10 "_law_asked" (spAsked1 K) [] := by
  refine calD T.f__law_asked T.g__law_asked sc__law_asked (fun fd F => F.bindsN fun _ _ _ _ _ _ us hl => match us, hl with | [_, _, _, _], _ => rfl) (fun vs H Q E h => by obtain ⟨_, _, _, _, _, _, _, _, _, rfl, _⟩ := h; rfl) fun cdv A outer s H vs Q E hr h => ?_
  refine ⟨_, (pss_cons (ps_try_as (i := 4) (Wout := fun _ _ _ _ => False) rfl rfl sc__law_asked.nd rfl rfl ⟨rfl, by decide, Or.inl T.g_WaneError⟩ takes0 (fun W pn xe tk _ => (pss_cons (ps_if (pt_cmpR op_eq (pv 2) pe_int (nomark _)) (pss_one (ps_ret (C8.pe_mt0 (met_Origins_spans T) hr (by decide) (pv 0)))) pss_nil) (pss_cons (ps_if (pt_cmpR op_eq (pv 2) pe_int (nomark _)) (pss_one (ps_ret (C8.pe_mt0 (met_Origins_many T) hr (by decide) (pv 0)))) pss_nil) (pss_cons (ps_if (pt_cmpR op_eq (pv 2) pe_int (nomark _)) (pss_one (ps_ret (EI.pe_mx (metX_Origins_list_of T) hr (by decide) (fun σ => passAt tk σ) (pv 0) (pa_cons (pv 3) pa_nil)))) pss_nil) (pss_one (ps_if (pt_cmpR op_eq (pv 2) pe_int (nomark _)) (pss_one (ps_ret (EI.pe_mx (metX_Origins_number_of T) hr (by decide) (fun σ => passAt tk σ) (pv 0) (pa_cons (pe_op NW.op_repN (NW.pe_lstN (pa_cons (pe_op op_add pe_int (pv 3)) pa_nil)) (pe_callB (KX.call_len (K := K) rfl) (by rfl) T.b_len (by decide +kernel) (pa_cons (C8.pe_mt0 (met_Origins_spans T) hr (by decide) (pv 0)) pa_nil))) pa_nil)))) pss_nil)))))) (fun a oe cls d pn hz hf => (pss_one (ps_ret (NW.pe_lstN (pa_cons pe_str (pa_cons (pe_callB (EI.call_isX hz hf) (by rfl) T.b_isinstance (by decide +kernel) (pa_cons (pv 4) (pa_cons (C8.pe_gc (v := .ref (He.ga K "NoNumber")) rfl ⟨_, T.g_NoNumber, rfl⟩) pa_nil))) (pa_cons (pe_callB (EI.call_isX hz hf) (by rfl) T.b_isinstance (by decide +kernel) (pa_cons (pv 4) (pa_cons (C8.pe_gc (v := .ref (He.ga K "NotOne")) rfl ⟨_, T.g_NotOne, rfl⟩) pa_nil))) pa_nil)))))))) (pss_one (ps_ret (pe_callTy NW.call_list_ofN (by rfl) T.b_list (by decide +kernel) (pa_cons (C8.pe_c (cal__law_told T) hr (by decide) rfl (pa_cons (pv 1) (pa_cons (pe_op op_add pe_int (pv 3)) pa_nil))) pa_nil))))), ?_⟩
  obtain ⟨ao, ss, vt, w1, s, w2, f, way, n, rfl, ho, oks, s1, s8, hv, ok, w0, w5, n40, q⟩ := h
  obtain ⟨dx, ff, vs, e, hf, p⟩ := id ho
  obtain ⟨x1, x2, x3, x4, x5, x6, x7, x8⟩ := T.exx
  have nolist : ∀ {H' : Hp} {a b : Bool} {l : Addr}, H l = none → H' l = some (.lst [.str "no", .bl a, .bl b]) → AskV K H H' (.ref l) (.list [.str "no", .bool a, .bool b]) := by
    intro H' a b l nl hl
    refine .inr ⟨l, _, rfl, nl, hl, by show 3 ≤ 1000; decide, fun u hu => ?_, .lst (SqL.of hl) (.cons (.str _) (.cons (.bl _) (.cons (.bl _) .nil))), list_shows rfl rfl (by simp [PyData.depth, PyData.depthAll]) (by cases a <;> cases b <;> decide +kernel) (by cases a <;> cases b <;> decide +kernel)⟩
    simp only [List.mem_cons, List.not_mem_nil, or_false] at hu
    rcases hu with rfl | rfl | rfl
    · exact .inr (.inr (.inr (.inl ⟨_, rfl⟩)))
    · exact .inr (.inl ⟨_, rfl⟩)
    · exact .inr (.inl ⟨_, rfl⟩)
  have hw : way = 0 ∨ way = 1 ∨ way = 2 ∨ way = 3 ∨ way = 4 := by omega
  rcases hw with rfl | rfl | rfl | rfl | rfl
  · refine ⟨_, rfl, rfl, _, rfl, iteT ⟨_, rfl, ao, dx, _, rfl, e, by kernel_rfl, ao, ss, rfl, ho, fun l H' us S nl hl pu => ?_⟩⟩
    obtain ⟨a1, a2, a3, a4, a5⟩ := spansD_few oks
    have lu := paired_len pu
    exact q _ _ H' S .spans (.inr ⟨l, us, rfl, nl, hl, by omega, spans_it pu, .lst (SqL.of hl) (spansD_dp pu), list_shows a1 a2 (by omega) a4 (by omega)⟩)
  · refine ⟨_, rfl, rfl, _, rfl, iteF ⟨_, rfl, rfl, _, rfl, iteT ⟨_, rfl, ao, dx, _, rfl, e, by kernel_rfl, ao, ss, rfl, ho, fun s hs => (oks s hs).wd, ?_⟩⟩⟩
    obtain ⟨m0, m1⟩ := many_le (a := 1) (B := 1) oks (by decide) (by decide)
    exact q _ _ H (Same.refl _) .many (.inl ⟨_, rfl, rfl, log_lt m0 (Int.lt_of_le_of_lt m1 (big8 s8))⟩)
  · refine ⟨_, rfl, rfl, _, rfl, iteF ⟨_, rfl, rfl, _, rfl, iteF ⟨_, rfl, rfl, _, rfl, iteT ⟨_, rfl, ao, dx, _, rfl, e, by kernel_rfl, _, rfl, ao, ss, n, rfl, ho, oks, s8, by omega, fun c l H' S nl hl => ?_, fun c d H' S hd => ?_⟩⟩⟩⟩
    · obtain ⟨z1, z2⟩ := listP_ok oks (many_pos oks (by omega)) n
      obtain ⟨a1, a2, a3, a4, a5⟩ := intsD_few z1
      exact q _ _ H' S (.list c) (.inr ⟨l, _, rfl, nl, hl, by rw [List.length_map]; omega, fun u hu => by obtain ⟨i, _, rfl⟩ := List.mem_map.mp hu; exact .inl ⟨i, rfl⟩, .lst (SqL.of hl) (intsD_dp _), list_shows a1 a2 (by omega) a4 (by omega)⟩)
    · refine ⟨true, x7, fun _ x nx => ?_, fun z => (by cases z)⟩
      exact ⟨_, rfl, cNN K, _, _, true, rfl, x1, .inr ⟨d, _, rfl, hd⟩, rfl, fun u r => r, x3, _, rfl, cNN K, _, _, false, rfl, x1, .inr ⟨d, _, rfl, hd⟩, rfl, fun u r => r, x4, by show 3 ≤ sizeLine; decide, fun l H2 nl S2 h2 => q _ _ H2 (S.trans S2) (.noNumber c) (nolist (S.free nl) h2)⟩
  · refine ⟨_, rfl, rfl, _, rfl, iteF ⟨_, rfl, rfl, _, rfl, iteF ⟨_, rfl, rfl, _, rfl, iteF ⟨_, rfl, rfl, _, rfl, iteT ⟨_, rfl, ao, dx, _, rfl, e, by kernel_rfl, ?_⟩⟩⟩⟩⟩
    refine ⟨_, rfl, _, _, rfl, rfl, by show 1 ≤ sizeLine; decide, fun L H1 nL S1 hL => ?_⟩
    refine ⟨_, rfl, ao, dx, _, rfl, S1 _ _ e, by kernel_rfl, ao, ss, rfl, ho.mono S1, fun l2 H2 us S2 nl2 hl2 pu => ?_⟩
    have lu := paired_len pu
    refine ⟨_, _, rfl, .inl ⟨_, SqL.of hl2, rfl⟩, L, _, _, rfl, rfl, S2 _ _ hL, by omega, by omega, ?_, fun L2 H3 n3 S3 h3 => ?_⟩
    · have : 1 * ((us.length : Nat) : Int).toNat ≤ 1000 := by omega
      exact Nat.le_of_lt (small1000 this)
    have S13 := (S1.trans S2).trans S3
    have el : (List.replicate ((us.length : Nat) : Int).toNat [V.int (1 + (n : Nat))]).flatten = (List.replicate ss.length (1 + (n : Int))).map V.int := by
      rw [show ((us.length : Nat) : Int).toNat = ss.length by omega]
      simp
    rw [el] at h3
    refine ⟨ao, ss, L2, List.replicate ss.length (1 + (n : Int)), rfl, ho.mono S13, oks, s8, h3, by simp, fun x hx => ?_, fun r hr H' S => ?_, fun hr H' S => ?_⟩
    · rw [(List.mem_replicate.mp hx).2]; omega
    · obtain ⟨r0, r1⟩ := go_le (a := 0) (B := 1) (fun z hz => oks _ (List.of_mem_zip hz).2) (by decide) (by decide) hr
      have lz : ((List.replicate ss.length (1 + (n : Int))).zip ss).length = ss.length := by simp
      rw [lz] at r1
      have := big8 s8
      exact q _ _ H' (S13.trans S) (.number hr) (.inl ⟨r, rfl, rfl, log_lt r0 (by omega)⟩)
    · refine ⟨true, x8, fun _ x nx => ?_, fun z => (by cases z)⟩
      exact ⟨_, rfl, cNO K, _, _, false, rfl, x2, .inl rfl, rfl, fun u r => r, x5, _, rfl, cNO K, _, _, true, rfl, x2, .inl rfl, rfl, fun u r => r, x6, by show 3 ≤ sizeLine; decide, fun l H2 nl S2 h2 => q _ _ H2 ((S13.trans S).trans S2) (.notOne hr) (nolist ((S13.trans S).free nl) h2)⟩
  · refine ⟨_, rfl, rfl, _, rfl, iteF ⟨_, rfl, rfl, _, rfl, iteF ⟨_, rfl, rfl, _, rfl, iteF ⟨_, rfl, rfl, _, rfl, iteF ?_⟩⟩⟩⟩
    refine ⟨_, rfl, _, rfl, _, _, rfl, rfl, vt, w1, s, w2, f, 1 + n, congrArg (fun z => [vt, V.int z]) (by omega), hv, ok, by omega, by omega, fun o v' H' S io hd => ?_⟩
    have few := isDue_few ok (by omega) io
    obtain ⟨t, xs, rfl, ht, lx, dp, its⟩ := dueL_dp (K := K) hd few
    refine ⟨t, xs, rfl, .inr (SqT.of ht), fun l H2 nl S2 hl => ?_⟩
    have sh : Shows (.list (dueL o)) := by
      have := dueD_few few
      rw [dueD_l] at this
      exact (Few.list this).shows (by decide)
    refine q _ _ H2 (S.trans S2) (.alike io) (.inr ⟨l, xs, rfl, S.free nl, hl, lx, its l nl H2 S2, .lst (SqL.of hl) ?_, sh⟩)
    exact dp _ S2
end
end WH

set_option maxHeartbeats 4000000
namespace WH
open PySem PySem.Spec PyProof.Rows L2
theorem small5 {n : Nat} (h : n ≤ 100000) : n < sizeLine := Nat.lt_of_le_of_lt h (by decide)
theorem spansD_lay : ∀ ss : List Span, PyData.canLayAll0 (ss.map spanD) = true ∧ PyData.depthAll (ss.map spanD) ≤ 2 ∧ PyData.eqvAll (ss.map spanD) (ss.map spanD) = true
  | [] => ⟨rfl, by simp [PyData.depthAll], by simp [PyData.eqvAll]⟩
  | s :: ss => by
    obtain ⟨a, b, c⟩ := spansD_lay ss
    cases s with
    | none =>
      refine ⟨by simp [PyData.canLayAll0, spanD, PyData.canLay0, a], ?_, by simp [PyData.eqvAll, spanD, PyData.eqv, c]⟩
      simp only [List.map_cons, PyData.depthAll, spanD, PyData.depth]; omega
    | some p =>
      refine ⟨by simp [PyData.canLayAll0, spanD, PyData.canLay0, a], ?_, by simp [PyData.eqvAll, spanD, PyData.eqv, c]⟩
      simp only [List.map_cons, PyData.depthAll, spanD, PyData.depth]; omega
theorem spansD_shaped (ss : List Span) : SeqAt.shaped (.list (ss.map spanD)) = true := by
  obtain ⟨a, b, _⟩ := spansD_lay ss
  unfold SeqAt.shaped
  rw [show PyData.canLay0 (.list (ss.map spanD)) = true by simp [PyData.canLay0, a], decide_eq_true (by simp only [PyData.depth]; omega)]; rfl
theorem spansD_eqv (ss : List Span) : PyData.eqv (.list (ss.map spanD)) (.list (ss.map spanD)) = true := by
  simp [PyData.eqv, (spansD_lay ss).2.2]
theorem OrigAt.but {K : PySem.W.Frag} {H H' : Hp} {b c : Addr} (g : Bag H b c) (s : But b H H') {a : Addr} {ss : List Span} : OrigAt K H a ss → OrigAt K H' a ss := fun ⟨dx, f, vs, e, h, p⟩ => by
  have T := But.tup g s
  obtain ⟨_, _, _, _, g⟩ := g
  refine ⟨dx, f, vs, s _ _ (fun z => by rw [z, g.b] at e; cases e) e, s _ _ (fun z => ?_) h, Paired.mapP p fun _ _ => SpanV.tup T⟩
  rw [z, g.b] at h
  cases h
  cases p with
  | @cons _ s _ _ r _ =>
    cases s with
    | none => cases r
    | some q => obtain ⟨t, e, _⟩ := r; cases e
/-! ### the known -/
theorem valV_mem {kvs : List (List L2.Key × V)} {k : List L2.Key} {v : V} (h : valV kvs k = some v) : (k, v) ∈ kvs := by
  unfold valV at h
  obtain ⟨p, hp, rfl⟩ := Option.map_eq_some_iff.mp h
  have := List.find?_some hp
  have e : p.1 = k := of_decide_eq_true this
  rw [← e]
  exact List.mem_of_find?_eq_some hp
theorem valV_some {kvs : List (List L2.Key × V)} {k : List L2.Key} {v : V} (h : (k, v) ∈ kvs) : ∃ v', valV kvs k = some v' := by
  cases e : valV kvs k with
  | some v' => exact ⟨v', rfl⟩
  | none =>
    unfold valV at e
    have := List.find?_eq_none.mp (Option.map_eq_none_iff.mp e) _ h
    simp at this
def keyL (x y : Int) (n : Nat) : List L2.Key := [.inl x, .inl y, .inl (n : Nat)]
/-- what the known says -/
def KnownAt (ss1 ss2 : List Span) (w1 : WN) (s : Int) (w2 : WN) (f : Int) (kv : List L2.Key × V) : Prop := ∃ x y, ∃ n : Nat, ∃ d, kv.1 = keyL x y n ∧ (x = 0 ∨ x = 1) ∧ 0 ≤ y ∧ y < 5 ∧ n < 40 ∧ AnsOf (if x = 0 then ss1 else ss2) w1 s w2 f n y d ∧ kv.2 = .str d.shown
theorem keyL_inj {x y x' y' : Int} {n n' : Nat} (h : keyL x y n = keyL x' y' n') : x = x' ∧ y = y' ∧ n = n' := by
  unfold keyL at h
  simp only [List.cons.injEq, Sum.inl.injEq, and_true] at h
  exact ⟨h.1, h.2.1, by omega⟩
/-- .. bound by n -/
def ItN (k : Nat) (H : Hp) (l : Addr) (H' : Hp) (u : V) : Prop := (∃ i, u = .int i) ∨ (∃ b, u = .bl b) ∨ u = .non ∨ (∃ x, u = .str x) ∨ (∃ t xs, u = .ref t ∧ H' t = some (.tup xs)) ∨ ∃ l2 ws, u = .ref l2 ∧ H l2 = none ∧ l2 ≠ l ∧ H' l2 = some (.lst ws) ∧ ws.length ≤ k
theorem ItN.upd {k : Nat} {H : Hp} {l l2 : Addr} {H' : Hp} {u : V} {ws ws' : List V} (h : ItN k H l H' u) (hl : H' l2 = some (.lst ws)) (hw : ws'.length ≤ k + 1) : ItN (k + 1) H l (upd H' l2 (.lst ws')) u := by
  rcases h with h | h | h | h | ⟨t, xs, e, h⟩ | ⟨l3, ws3, e, n, ne, h, hk⟩
  · exact .inl h
  · exact .inr (.inl h)
  · exact .inr (.inr (.inl h))
  · exact .inr (.inr (.inr (.inl h)))
  · exact .inr (.inr (.inr (.inr (.inl ⟨t, xs, e, by rw [upd_ne (fun z => by rw [z, hl] at h; cases h)]; exact h⟩))))
  · refine .inr (.inr (.inr (.inr (.inr ?_))))
    by_cases z : l3 = l2
    · subst z
      exact ⟨l3, ws', e, n, ne, upd_same, hw⟩
    · exact ⟨l3, ws3, e, n, ne, by rw [upd_ne z]; exact h, by omega⟩
theorem ItN.up {k : Nat} {H : Hp} {l : Addr} {H' : Hp} {u : V} (h : ItN k H l H' u) : ItN (k + 1) H l H' u := by
  rcases h with h | h | h | h | h | ⟨l3, ws3, e, n, ne, h, hk⟩
  · exact .inl h
  · exact .inr (.inl h)
  · exact .inr (.inr (.inl h))
  · exact .inr (.inr (.inr (.inl h)))
  · exact .inr (.inr (.inr (.inr (.inl h))))
  · exact .inr (.inr (.inr (.inr (.inr ⟨l3, ws3, e, n, ne, h, by omega⟩))))
section
variable {P : Program} {w : World} {K : PySem.W.Frag} {mg : Str → Option Value} {base : Heap}
def spAlikeL (K : PySem.W.Frag) : Sp := fun vs H Q _ => ∃ a1 a2 d, vs = [.ref a1, .ref a2] ∧ Dp K H (.ref a1) d ∧ Dp K H (.ref a2) d ∧ SeqAt.shaped d = true ∧ PyData.eqv d d = true ∧ Shows d ∧ Q (.bl true) H
theorem calG__law_alike (T : Txt K mg) : GL.CalG P w K mg base 1 "_law_alike" (spAlikeL K) [] := by
  obtain ⟨fd, F⟩ := T.f__law_alike
  refine ⟨_, fd, _, [], GL.okG F sc__law_alike (fun vs H Q E h => by obtain ⟨_, _, _, rfl, _⟩ := h; rfl) ?_, T.g__law_alike, F.kp, (F.bindsN fun _ _ _ _ _ _ us hl => match us, hl with | [_, _], _ => rfl), .nil⟩
  intro cdv A outer s H vs Q E hr gd h
  refine ⟨_, PSs.nox (pss_one (ps_ret (pe_and (pe_cmpR (op_eqD hr.units) (pv 0) (pv 1) (nomark _)) (pe_one (pe_cmpR op_eq (pe_callB (EJ.call_reprX gd hr.units) (by rfl) T.b_repr (by decide +kernel) (pa_cons (pv 0) pa_nil)) (pe_callB (EJ.call_reprX gd hr.units) (by rfl) T.b_repr (by decide +kernel) (pa_cons (pv 1) pa_nil)) (nomark _)))))), ?_⟩
  obtain ⟨a1, a2, d, rfl, d1, d2, sp, ev, sh, q⟩ := h
  refine ⟨_, rfl, _, rfl, _, _, d1, d2, sp, sp, _, rfl, ?_⟩
  rw [ev]
  refine iteT ⟨_, rfl, .inl ⟨a1, d, rfl, d1, sh.a, sh.b, sh.c, sh.d, _, rfl, .inl ⟨a2, d, rfl, d2, sh.a, sh.b, sh.c, sh.d, rfl, ?_⟩⟩⟩
  rw [decide_eq_true rfl]
  exact q
end
end WH

set_option maxHeartbeats 4000000
namespace WH
open PySem PySem.Spec PyProof.Rows L2
section
variable {P : Program} {w : World} {K : PySem.W.Frag} {mg : Str → Option Value} {base : Heap}
theorem take1 {α : Type} {l : List α} (h : 0 < l.length) : l.take 1 = [l[0]'h] := by
  cases l with
  | nil => exact absurd h (by simp)
  | cons x r => rfl
theorem head_data {α : Type} (l : List α) (x : α) (h : l[0]? = some x) : l ++ l.take 1 = l ++ [x] := by
  cases l with
  | nil => cases h
  | cons a l => cases h; rfl
theorem OrigAt.updP {H : Hp} {l : Addr} {us us' : List V} {v : V} {y : Part} {a : Addr} {ss : List Span} (h : OrigAt K H a ss) (hl : H l = some (.lst us)) (hv : us[0]? = some v) (hp : PartV K H v y) : OrigAt K (upd H l (.lst us')) a ss := by
  obtain ⟨dx, f, vs, e, hf, p⟩ := h
  have fl : f ≠ l := fun z => by
    rw [z, hl] at hf
    cases hf
    obtain ⟨s, _, hs⟩ := paired_get p hv
    obtain ⟨t, _, _, rfl, ht, _⟩ := hp
    cases s with
    | none => cases hs
    | some q => obtain ⟨u, e2, hu⟩ := hs; cases e2; rw [ht] at hu; cases hu
  exact ⟨dx, f, vs, by rw [upd_ne (fun z => by rw [z, hl] at e; cases e)]; exact e, by rw [upd_ne fl]; exact hf, Paired.mapP p fun _ _ => SpanV.tup (Tup.upd fun ws e2 => by rw [hl] at e2; cases e2)⟩
def spLaw (K : PySem.W.Frag) : Sp := fun vs H Q _ => ∃ (a : Addr) (ns : List Int), vs = [.ref a] ∧ SqL K H a (ns.map V.int) ∧ ∀ H', Q (.bl true) H'
theorem fn_law (T : Txt K mg) {fd : FuncData} (F : FD K d_law fd) : GL.FnG P w K mg base C8.CX0 11 (He.fAd K d_law.at_) fd ["_law_script"] (spLaw K) := by
  refine GL.okG F sc_law (fun vs H Q E h => by obtain ⟨_, _, rfl, _⟩ := h; rfl) fun cdv A outer s H vs Q E hr gd h => ?_
  refine ⟨_, PSs.nox ((pss_cons (ps_set (i := 1) sc_law.nd rfl (by first | exact Or.inl rfl | exact Or.inr rfl) (C8.pe_c (cal__law_bag T) hr (by decide) rfl (pa_cons (pv 0) pa_nil))) (pss_cons (ps_set (i := 2) sc_law.nd rfl (by first | exact Or.inl rfl | exact Or.inr rfl) (C8.pe_c (cal__law_parts T) hr (by decide) rfl (pa_cons (pv 1) pa_nil))) (pss_cons (ps_set (i := 3) sc_law.nd rfl (by first | exact Or.inl rfl | exact Or.inr rfl) (pe_callTy NW.call_list_ofN (by rfl) T.b_list (by decide +kernel) (pa_cons (pv 2) pa_nil))) (pss_cons (ps_set (i := 4) sc_law.nd rfl (by first | exact Or.inl rfl | exact Or.inr rfl) (C8.pe_mk (mak_Origins T) hr (by decide) rfl (pa_cons (pv 3) pa_nil))) (pss_cons (ps_expr (pe_bm PySem.F.plainAttrs_list PySem.F.slot_list_append PySem.F.type_list_append mt_append (pv 3) (pa_cons (pe_ix ix_list (pv 2) pe_int (fun _ _ => rfl)) pa_nil))) (C8.pss_cut (ps_set (i := 5) sc_law.nd rfl (by first | exact Or.inl rfl | exact Or.inr rfl) (C8.pe_mk (mak_Origins T) hr (by decide) rfl (pa_cons (pv 3) pa_nil))) (pss_cons (ps_expr (pe_bm0 PySem.F.plainAttrs_list PySem.F.slot_list_clear PySem.F.type_list_clear mt_clear (pv 3))) (C8.pss_cut (ps_set (i := 6) sc_law.nd rfl (by first | exact Or.inl rfl | exact Or.inr rfl) (NW.pe_lstN (pa_cons (pv 4) (pa_cons (pv 5) pa_nil)))) (C8.pss_cut (ps_if (pt_not (pt_val (GL.pe_cG (calG__law_alike T) hr (by decide) gd rfl (pa_cons (C8.pe_mt0 (met_Origins_spans T) hr (by decide) (pv 5)) (pa_cons (pe_op NW.op_catN (C8.pe_mt0 (met_Origins_spans T) hr (by decide) (pv 4)) (pe_slice NW.sl_listN (C8.pe_mt0 (met_Origins_spans T) hr (by decide) (pv 4)) po_none (po_some pe_int))) pa_nil))))) (pss_one (ps_ret pe_bl)) pss_nil) (C8.pss_cut (ps_set (i := 7) sc_law.nd rfl (by first | exact Or.inl rfl | exact Or.inr rfl) (pe_ix ix_list (NW.pe_lstN (pa_cons (C8.pe_c (cal__law_two T) hr (by decide) rfl (pa_cons (pv 1) (pa_cons pe_int pa_nil))) (pa_cons (C8.pe_c (cal__law_long T) hr (by decide) rfl (pa_cons (pv 1) pa_nil)) pa_nil))) (pe_callTy call_int1 (by rfl) T.b_int (by decide +kernel) (pa_cons (pe_cmpR op_eq (C8.pe_c (cal__law_take T) hr (by decide) rfl (pa_cons (pv 1) (pa_cons pe_int pa_nil))) pe_int (nomark _)) pa_nil)) (fun _ _ => rfl))) (pss_cons (ps_set (i := 8) sc_law.nd rfl (by first | exact Or.inl rfl | exact Or.inr rfl) pe_dnewT) (pss_cons (ps_for PassesOwn.never rfl (pi_range1 (by rfl) T.b_range (pa_cons (pe_op op_add pe_int (C8.pe_c (cal__law_take T) hr (by decide) rfl (pa_cons (pv 1) (pa_cons pe_int pa_nil)))) pa_nil)) (pg_name (i := 9) sc_law.nd rfl (by first | exact Or.inl rfl | exact Or.inr rfl)) (C8.pss_cut (ps_set (i := 10) sc_law.nd rfl (by first | exact Or.inl rfl | exact Or.inr rfl) (NW.pe_tupN (pa_cons (C8.pe_c (cal__law_take T) hr (by decide) rfl (pa_cons (pv 1) (pa_cons pe_int pa_nil))) (pa_cons (C8.pe_c (cal__law_take T) hr (by decide) rfl (pa_cons (pv 1) (pa_cons pe_int pa_nil))) (pa_cons (C8.pe_c (cal__law_take T) hr (by decide) rfl (pa_cons (pv 1) (pa_cons pe_int pa_nil))) pa_nil))))) (C8.pss_cut (ps_set (i := 11) sc_law.nd rfl (by first | exact Or.inl rfl | exact Or.inr rfl) (C8.pe_c (cal__law_asked T) hr (by decide) rfl (pa_cons (pe_ix ix_list (pv 6) (pe_ix ix_tup (pv 10) pe_int (fun _ _ => rfl)) (fun _ _ => rfl)) (pa_cons (pv 7) (pa_cons (pe_ix ix_tup (pv 10) pe_int (fun _ _ => rfl)) (pa_cons (pe_ix ix_tup (pv 10) pe_int (fun _ _ => rfl)) pa_nil)))))) (C8.pss_cut (ps_set (i := 12) sc_law.nd rfl (by first | exact Or.inl rfl | exact Or.inr rfl) (pe_callB (EJ.call_reprX gd hr.units) (by rfl) T.b_repr (by decide +kernel) (pa_cons (pv 11) pa_nil))) (C8.pss_cut (ps_if (pt_cmpR op_ne (EJ.pe_dset (hu_of hr) (pv 8) (pv 10) (pv 12) ⟨rfl, rfl, rfl, rfl⟩) (pv 12) (nomark _)) (pss_one (ps_ret pe_bl)) pss_nil) (C8.pss_cut (ps_if (pt_val (pe_callB call_isi (by rfl) T.b_isinstance (by decide +kernel) (pa_cons (pv 11) (pa_cons (pe_bltn (v := .ty "list") (by rfl) T.b_list (by decide +kernel) rfl) pa_nil)))) (pss_one (ps_for PassesOwn.never rfl (pi_list (pv 11)) (pg_name (i := 13) sc_law.nd rfl (by first | exact Or.inl rfl | exact Or.inr rfl)) (pss_one (ps_expr (C8.pe_c (cal__law_spoilt T) hr (by decide) rfl (pa_cons (pv 13) pa_nil)))))) pss_nil) (pss_one (ps_expr (C8.pe_c (cal__law_spoilt T) hr (by decide) rfl (pa_cons (pv 11) pa_nil)))))))))) (pss_cons (ps_lock (ps_for PassesOwn.never rfl (pi_keys (pv 8)) (pg_name (i := 10) sc_law.nd rfl (by first | exact Or.inl rfl | exact Or.inr rfl)) (pss_one (ps_if (pt_cmpR op_ne (pe_callB (EJ.call_reprX gd hr.units) (by rfl) T.b_repr (by decide +kernel) (pa_cons (C8.pe_c (cal__law_asked T) hr (by decide) rfl (pa_cons (pe_ix ix_list (pv 6) (pe_ix ix_tup (pv 10) pe_int (fun _ _ => rfl)) (fun _ _ => rfl)) (pa_cons (pv 7) (pa_cons (pe_ix ix_tup (pv 10) pe_int (fun _ _ => rfl)) (pa_cons (pe_ix ix_tup (pv 10) pe_int (fun _ _ => rfl)) pa_nil))))) pa_nil)) (pe_dget (hu_of hr) (pv 8) (pv 10) (fun _ _ => rfl)) (nomark _)) (pss_one (ps_ret pe_bl)) pss_nil)))) (pss_one (ps_ret pe_bl)))))))))))))))), ?_⟩
  obtain ⟨a, ns, rfl, hs, q⟩ := h
  refine ⟨_, rfl, a, ns, rfl, hs, fun b c H1 S1 nb g1 => ?_⟩
  refine ⟨_, rfl, b, c, rfl, g1, fun lp ps H2 s2 g2 nlp hlp p1 p4 => ?_⟩
  obtain ⟨vs, hvs, pp⟩ := id hlp
  have lv := paired_len pp
  refine ⟨_, rfl, lp, vs, rfl, .inl (SqL.of hvs), fun hd H3 nh S3 hh => ?_⟩
  have g3 := g2.same S3
  refine ⟨_, rfl, fun ao da na nda ne => ?_⟩
  have pp3 := Paired.mapP pp fun _ _ => PartV.mono S3
  refine ⟨H3, ao, da, hd, ps, rfl, rfl, na, nda, ne, ⟨vs, hh, pp3⟩, p1, by omega, fun H4 S4 ho1 => ⟨rfl, ?_⟩⟩
  -- the second one
  have hh4 := S4 _ _ hh
  have pp4 := Paired.mapP pp3 fun _ _ => PartV.mono S4
  obtain ⟨v0, hv0⟩ : ∃ v0, vs[0]? = some v0 := ⟨_, List.getElem?_eq_getElem (by omega)⟩
  obtain ⟨y0, hy0, hx0⟩ := paired_get pp4 hv0
  have hvs4 := S4 _ _ (S3 _ _ hvs)
  have hne : hd ≠ b := g2.nb nh
  have hnc : hd ≠ c := g2.nc nh
  refine ⟨_, rfl, .inl ⟨rfl, _, SqL.of hh4⟩, _, rfl, lp, _, _, _, rfl, rfl, SqL.of hvs4, atI_nat (j := 0) hv0, hd, vs, v0, rfl, rfl, hh4, small1000 (by omega), ?_⟩
  have ok_ : ∀ {H' : Hp} {v : V} {y : Part}, PartV K H' v y → okSp (spanP y) := fun ⟨_, _, _, _, _, hw, _, ok⟩ => spanP_ok ok hw.ok.c2
  have S35 : Same H2 (upd H4 hd (.lst (vs ++ [v0]))) := Same.mut (S3.trans S4) nh
  have ho5 : OrigAt K (upd H4 hd (.lst (vs ++ [v0]))) ao (ps.map spanP) := ho1.updP hh4 hv0 hx0
  have g5 : Bag (upd H4 hd (.lst (vs ++ [v0]))) b c := (g3.same S4).put hne hnc
  have hh5 : upd H4 hd (.lst (vs ++ [v0])) hd = some (.lst (vs ++ [v0])) := upd_same
  have hx2 : PartV K H2 v0 y0 := by
    obtain ⟨y, hy, hx⟩ := paired_get pp hv0
    rw [hy0] at hy
    cases hy
    exact hx
  have pp5 : Paired (PartV K (upd H4 hd (.lst (vs ++ [v0])))) (vs ++ [v0]) (ps ++ [y0]) := paired_snoc (Paired.mapP pp fun _ _ => PartV.mono S35) (hx2.mono S35)
  have okA : ∀ s ∈ (ps ++ [y0]).map spanP, okSp s := by
    intro s hs
    obtain ⟨y, hy, rfl⟩ := List.mem_map.mp hs
    obtain ⟨i, hi⟩ := List.mem_iff_getElem?.mp hy
    obtain ⟨x, hx, hpx⟩ := paired_at pp5 hi
    exact ok_ hpx
  have ok1 : ∀ s ∈ ps.map spanP, okSp s := fun s hs => okA s (by rw [List.map_append]; exact List.mem_append_left _ hs)
  have e12 : (ps ++ [y0]).map spanP = ps.map spanP ++ (ps.map spanP).take 1 := by
    rw [head_data (ps.map spanP) (spanP y0) (by rw [List.getElem?_map, hy0]; rfl), List.map_append]; rfl
  have l1 : 1 ≤ (ps.map spanP).length := by rw [List.length_map]; exact p1
  have l4 : (ps.map spanP).length ≤ 4 := by rw [List.length_map]; exact p4
  have l5 : ((ps ++ [y0]).map spanP).length = (ps.map spanP).length + 1 := by rw [List.length_map, List.length_append, List.length_map]; rfl
  generalize upd H4 hd (.lst (vs ++ [v0])) = H5 at S35 ho5 g5 hh5 pp5
  refine ⟨fun σ H' => ∃ oo, σ = [some (.ref a), some (.ref b), some (.ref lp), some (.ref hd), some (.ref ao), some (.ref oo), none, none, none, none, none, none, none, none] ∧ Same H5 H' ∧ OrigAt K H' oo ((ps ++ [y0]).map spanP), ?_, ?_⟩
  · refine ⟨_, rfl, fun oo db no ndb ne2 => ?_⟩
    exact ⟨H5, oo, db, hd, ps ++ [y0], rfl, rfl, no, ndb, ne2, ⟨_, hh5, pp5⟩, by rw [List.length_append]; exact Nat.le_add_left _ _, by rw [List.length_append]; show ps.length + 1 ≤ 8; omega, fun H6 S6 ho2 => ⟨rfl, oo, rfl, S6, ho2⟩⟩
  rintro σ H6 ⟨oo, rfl, S6, ho2⟩
  have hh6 := S6 _ _ hh5
  have hv5 : (vs ++ [v0])[0]? = some v0 := by rw [List.getElem?_append_left (by omega)]; exact hv0
  have hx6 : PartV K H6 v0 y0 := (hx2.mono S35).mono S6
  refine ⟨_, rfl, .inl ⟨rfl, _, SqL.of hh6⟩, hd, _, rfl, rfl, hh6, ?_⟩
  have ho1' := (ho5.mono S6).updP (us' := []) hh6 hv5 hx6
  have ho2' := ho2.updP (us' := []) hh6 hv5 hx6
  have g7 : Bag (upd H6 hd (.lst [])) b c := (g5.same S6).put hne hnc
  generalize upd H6 hd (.lst []) = H7 at ho1' ho2' g7
  generalize hss1 : ps.map spanP = ss1 at *
  generalize hss2 : (ps ++ [y0]).map spanP = ss2 at *
  refine ⟨fun σ H' => ∃ bl, σ = [some (.ref a), some (.ref b), some (.ref lp), some (.ref hd), some (.ref ao), some (.ref oo), some (.ref bl), none, none, none, none, none, none, none] ∧ Bag H' b c ∧ OrigAt K H' ao ss1 ∧ OrigAt K H' oo ss2 ∧ H' bl = some (.lst [.ref ao, .ref oo]), ?_, ?_⟩
  · exact ⟨_, rfl, _, rfl, by show 2 ≤ sizeLine; decide, fun bl H8 nbl S8 h8 => ⟨bl, rfl, g7.same S8, ho1'.mono S8, ho2'.mono S8, h8⟩⟩
  clear ho1' ho2' g7
  rintro σ H8 ⟨bl, rfl, g8, ho1, ho2, hbl⟩
  refine ⟨fun σ H' => σ = [some (.ref a), some (.ref b), some (.ref lp), some (.ref hd), some (.ref ao), some (.ref oo), some (.ref bl), none, none, none, none, none, none, none] ∧ Same H8 H', ?_, ?_⟩
  · obtain ⟨dx1, f1, vs1, e1, _⟩ := id ho1
    obtain ⟨dx2, f2, vs2, e2, _⟩ := id ho2
    refine ⟨_, rfl, oo, dx2, _, rfl, e2, by kernel_rfl, oo, ss2, rfl, ho2, fun q1 A1 us1 T1 m1 h1 pu1 => ?_⟩
    refine ⟨_, rfl, ao, dx1, _, rfl, T1 _ _ e1, by kernel_rfl, ao, ss1, rfl, ho1.mono T1, fun q2 A2 us2 T2 m2 h2 pu2 => ?_⟩
    have T12 := T1.trans T2
    refine ⟨_, rfl, ao, dx1, _, rfl, T12 _ _ e1, by kernel_rfl, ao, ss1, rfl, ho1.mono T12, fun q3 A3 us3 T3 m3 h3 pu3 => ?_⟩
    refine ⟨_, rfl, q3, us3, rfl, SqL.of h3, fun q4 A4 m4 T4 h4 => ?_⟩
    have k1 := paired_len pu1
    have k2 := paired_len pu2
    have k3 := paired_len pu3
    have ec : cutV us3 none (some 1) = us3.take 1 := by
      unfold cutV
      have : min us3.length 1 = 1 := by omega
      simp [HT.sIx]
    rw [ec] at h4
    have T34 := T3.trans T4
    refine ⟨q2, q4, us2, us3.take 1, rfl, rfl, T34 _ _ h2, h4, ?_, fun q5 A5 m5 T5 h5 => ?_⟩
    · have := List.length_take_le' 1 us3
      exact Nat.le_of_lt (small1000 (by omega))
    have T25 := T34.trans T5
    have T15 := T2.trans T25
    have pu : Paired (SpanV A5) (us2 ++ us3.take 1) ss2 := by
      rw [e12]
      refine ND.paired_app (Paired.mapP pu2 fun _ _ => SpanV.tup (Tup.of T25)) ?_
      have z3 : 0 < us3.length := by omega
      have z1 : 0 < ss1.length := by omega
      obtain ⟨y, hy, hx⟩ := paired_get (i := 0) (x := us3[0]'z3) pu3 (List.getElem?_eq_getElem z3)
      rw [take1 z3, take1 z1]
      rw [List.getElem?_eq_getElem z1] at hy
      cases hy
      exact .cons (hx.tup (Tup.of (T4.trans T5))) .nil
    obtain ⟨a1, a2, a3, a4, a5⟩ := spansD_few okA
    refine ⟨q1, q5, .list (ss2.map spanD), rfl, .lst (SqL.of (T15 _ _ h1)) (spansD_dp (Paired.mapP pu1 fun _ _ => SpanV.tup (Tup.of T15))), .lst (SqL.of h5) (spansD_dp pu), spansD_shaped _, spansD_eqv _, list_shows a1 a2 (by omega) a4 (by omega), ?_⟩
    exact ⟨true, rfl, iteF ⟨rfl, T1.trans T15⟩⟩
  rintro σ H9 ⟨rfl, S9⟩
  have g9 := g8.same S9
  have o1 := ho1.mono S9
  have o2 := ho2.mono S9
  have hbl9 := S9 _ _ hbl
  clear ho1 ho2 hbl
  refine ⟨fun σ H' => ∃ v w1 s w2 f, σ = [some (.ref a), some (.ref b), some (.ref lp), some (.ref hd), some (.ref ao), some (.ref oo), some (.ref bl), some v, none, none, none, none, none, none] ∧ But b H9 H' ∧ Bag H' b c ∧ TwoV H' v w1 s w2 f ∧ okTwo w1 s w2 f, ?_, ?_⟩
  · refine ⟨_, rfl, b, c, 5, rfl, by decide, by decide, g9, fun x3 w3 n3 w4 f3 A1 t1 h1 hv3 ok3 _ => ?_⟩
    refine ⟨_, rfl, b, c, rfl, h1, fun x4 w5 n4 w6 f4 A2 t2 h2 hv4 ok4 => ⟨by show 2 ≤ sizeLine; decide, fun ll A3 n5 T3 e3 => ?_⟩⟩
    refine ⟨_, rfl, b, c, 6, rfl, h2.same T3, by decide, by decide, fun v5 A4 z0 z1 t4 h4 => ?_⟩
    have e4 := t4 _ _ (h2.nb n5) e3
    have k3 := (hv3.but h1 t2).mono T3 |>.but (h2.same T3) t4
    have k4 := hv4.mono T3 |>.but (h2.same T3) t4
    have B := ((t1.trans t2).same T3).trans t4
    refine ⟨rfl, .inr ⟨_, rfl, ?_⟩⟩
    by_cases z : v5 = 0
    · subst z
      exact ⟨ll, _, _, _, rfl, rfl, SqL.of e4, rfl, x4, w5, n4, w6, f4, rfl, B, h4, k4, ok4⟩
    · rw [decide_eq_false (fun e => z (by injection e))]
      exact ⟨ll, _, _, _, rfl, rfl, SqL.of e4, rfl, x3, w3, n3, w4, f3, rfl, B, h4, k3, ok3⟩
  rintro σ HA ⟨vt, w1, s, w2, f, rfl, bA, gA, hv, ok⟩
  have oA1 := o1.but g9 bA
  have oA2 := o2.but g9 bA
  have blb : bl ≠ b := fun z => by
    obtain ⟨_, _, _, _, g⟩ := g9
    rw [z, g.b] at hbl9; cases hbl9
  have hblA := bA _ _ blb hbl9
  clear hbl9 o1 o2 bA g9
  intro dk ndk
  have kb : dk ≠ b := gA.nb ndk
  have kc : dk ≠ c := gA.nc ndk
  have lss : ∀ x : Int, (∀ s ∈ (if x = 0 then ss1 else ss2), okSp s) ∧ 1 ≤ (if x = 0 then ss1 else ss2).length ∧ (if x = 0 then ss1 else ss2).length ≤ 8 := by
    intro x
    by_cases z : x = 0
    · rw [if_pos z]; exact ⟨ok1, l1, by omega⟩
    · rw [if_neg z]; exact ⟨okA, by omega, by omega⟩
  -- what an asking wants
  have ask : ∀ {H' : Hp} (x : Int), But b HA H' → (x = 0 ∨ x = 1) → ∃ oX, atI [V.ref ao, .ref oo] x = some (.ref oX) ∧ OrigAt K H' oX (if x = 0 then ss1 else ss2) := by
    intro H' x B hx
    rcases hx with rfl | rfl
    · exact ⟨ao, rfl, oA1.but gA B⟩
    · exact ⟨oo, rfl, oA2.but gA B⟩
  have g0 : Bag (upd HA dk (.dT [])) b c := gA.put kb kc
  have B0 : But b HA (upd HA dk (.dT [])) := (But.refl b HA).mut ndk
  have hk0 : upd HA dk (.dT []) dk = some (.dT []) := upd_same
  generalize upd HA dk (.dT []) = HB at g0 B0 hk0 ⊢
  refine ⟨_, rfl, b, c, 16, rfl, g0, by decide, by decide, fun v HC a1 a2 s4 g4 => ⟨_, _, rfl, rfl, _, rfl, by omega, by omega, ?_⟩⟩
  refine for_it walk_range (fun i σ H' => But b HA H' ∧ Bag H' b c ∧ ∃ kvs o9 o10 o11 o12 o13, H' dk = some (.dT kvs) ∧ kvs.length ≤ i ∧ (∀ kv ∈ kvs, KnownAt ss1 ss2 w1 s w2 f kv) ∧ σ = [some (.ref a), some (.ref b), some (.ref lp), some (.ref hd), some (.ref ao), some (.ref oo), some (.ref bl), some vt, some (.ref dk), o9, o10, o11, o12, o13])
    ⟨B0.trans s4, g4, [], _, _, _, _, _, s4 _ _ kb hk0, Nat.le_refl _, fun _ h => absurd h (by simp), rfl⟩ (fun _ _ _ _ _ => trivial) ?_ ?_
  · rintro i x σ H5 H6 hi ⟨B6, g6, kvs, o9, o10, o11, o12, o13, hk6, lk, known, rfl⟩ ⟨rfl, rfl⟩
    refine ⟨fun σ H' => ∃ kt x y, ∃ n : Nat, σ = [some (.ref a), some (.ref b), some (.ref lp), some (.ref hd), some (.ref ao), some (.ref oo), some (.ref bl), some vt, some (.ref dk), some (.int (0 + i)), some (.ref kt), o11, o12, o13] ∧ But b H6 H' ∧ Bag H' b c ∧ H' kt = some (.tup [.int x, .int y, .int (n : Nat)]) ∧ (x = 0 ∨ x = 1) ∧ 0 ≤ y ∧ y < 5 ∧ n < 40, ?_, ?_⟩
    · refine ⟨_, rfl, b, c, 2, rfl, g6, by decide, by decide, fun x A1 x0 x1 t1 h1 => ?_⟩
      refine ⟨_, rfl, b, c, 5, rfl, h1, by decide, by decide, fun y A2 y0 y1 t2 h2 => ?_⟩
      refine ⟨_, rfl, b, c, 40, rfl, h2, by decide, by decide, fun n A3 n0 n1 t3 h3 => ?_⟩
      obtain ⟨n, rfl⟩ := Int.eq_ofNat_of_zero_le n0
      exact ⟨by show 3 ≤ sizeLine; decide, fun kt A4 nk T4 e4 => ⟨kt, x, y, n, rfl, ((t1.trans t2).trans t3).same T4, h3.same T4, e4, by omega, y0, y1, by omega⟩⟩
    rintro σ H7 ⟨kt, x, y, n, rfl, B67, g7, hkt, hx, y0, y1, n40⟩
    have B7 := B6.trans B67
    have hk7 := B67 _ _ kb hk6
    obtain ⟨oX, eX, hoX⟩ := ask x B7 hx
    obtain ⟨oks, s1_, s8_⟩ := lss x
    have hbl7 := B7 _ _ blb hblA
    have hv7 := hv.but gA B7
    refine ⟨fun σ H' => ∃ v d, σ = [some (.ref a), some (.ref b), some (.ref lp), some (.ref hd), some (.ref ao), some (.ref oo), some (.ref bl), some vt, some (.ref dk), some (.int (0 + i)), some (.ref kt), some v, o12, o13] ∧ Same H7 H' ∧ AnsOf (if x = 0 then ss1 else ss2) w1 s w2 f n y d ∧ AskV K H7 H' v d, ?_, ?_⟩
    · refine ⟨_, rfl, _, rfl, kt, _, _, _, rfl, rfl, SqT.of hkt, rfl, bl, _, _, _, rfl, rfl, SqL.of hbl7, eX, ?_⟩
      refine ⟨_, rfl, _, rfl, kt, _, _, _, rfl, rfl, SqT.of hkt, rfl, _, rfl, kt, _, _, _, rfl, rfl, SqT.of hkt, rfl, ?_⟩
      exact ⟨oX, _, vt, w1, s, w2, f, y, n, rfl, hoX, oks, s1_, s8_, hv7, ok, y0, y1, n40, fun v d H' S an ak => ⟨v, d, rfl, S, an, ak⟩⟩
    rintro σ H8 ⟨v, d, rfl, S8, an, ak⟩
    have B8 := B7.same S8
    have g8_ := g7.same S8
    have hk8 := S8 _ _ hk7
    have hkt8 := S8 _ _ hkt
    refine ⟨fun σ H' => H' = H8 ∧ σ = [some (.ref a), some (.ref b), some (.ref lp), some (.ref hd), some (.ref ao), some (.ref oo), some (.ref bl), some vt, some (.ref dk), some (.int (0 + i)), some (.ref kt), some v, some (.str d.shown), o13], ?_, ?_⟩
    · rcases id ak with ⟨j, rfl, rfl, hj⟩ | ⟨l, us, rfl, _, _, _, _, dp, sh⟩
      · exact ⟨_, rfl, .inr ⟨j, rfl, hj, rfl, rfl⟩⟩
      · exact ⟨_, rfl, .inl ⟨l, d, rfl, dp, sh.a, sh.b, sh.c, sh.d, rfl, rfl⟩⟩
    rintro σ H8' ⟨rfl, rfl⟩
    refine ⟨fun σ H' => ∃ kvs', σ = [some (.ref a), some (.ref b), some (.ref lp), some (.ref hd), some (.ref ao), some (.ref oo), some (.ref bl), some vt, some (.ref dk), some (.int (0 + i)), some (.ref kt), some v, some (.str d.shown), o13] ∧ (H' = H8' ∨ H' = upd H8' dk (.dT kvs')) ∧ H' dk = some (.dT kvs') ∧ kvs'.length ≤ i + 1 ∧ ∀ kv ∈ kvs', KnownAt ss1 ss2 w1 s w2 f kv, ?_, ?_⟩
    · refine ⟨_, rfl, dk, rfl, .inr ⟨kvs, .inl hk8⟩, _, rfl, _, rfl, kvs, keyL x y n, kt, hk8, rfl, hkt8, small5 (by omega), fun v' hv' => ?_, fun hn => ?_⟩
      · obtain ⟨x', y', n', d', ek, _, _, _, _, an', ev⟩ := known _ (valV_mem hv')
        obtain ⟨rfl, rfl, rfl⟩ := keyL_inj ek
        have ev : v' = .str d'.shown := ev
        have := ans_one an an'
        subst this
        subst ev
        exact ⟨_, rfl, rfl, _, rfl, iteF_of (by rw [decide_eq_true rfl]; rfl) ⟨kvs, rfl, .inl rfl, hk8, by omega, known⟩⟩
      · refine ⟨_, rfl, rfl, _, rfl, iteF_of (by rw [decide_eq_true rfl]; rfl) ⟨_, rfl, .inr rfl, upd_same, ?_, ?_⟩⟩
        · rw [putK_new _ hn, List.length_append]; show kvs.length + 1 ≤ i + 1; omega
        · rw [putK_new _ hn]
          intro kv hkv
          rcases List.mem_append.mp hkv with hkv | hkv
          · exact known _ hkv
          · rw [List.mem_singleton.mp hkv]
            exact ⟨x, y, n, d, rfl, hx, y0, y1, n40, an, rfl⟩
    rintro σ H9 ⟨kvs', rfl, e9, hk9, lk', known'⟩
    have B9 : But b HA H9 := by
      rcases e9 with rfl | rfl
      · exact B8
      · exact B8.mut ndk
    have g9 : Bag H9 b c := by
      rcases e9 with rfl | rfl
      · exact g8_
      · exact g8_.put kb kc
    have T89 : Tup H8' H9 := by
      rcases e9 with rfl | rfl
      · exact fun _ _ h => h
      · exact Tup.upd fun vs e => by rw [hk8] at e; cases e
    have L89 : ∀ l us, l ≠ dk → H8' l = some (.lst us) → H9 l = some (.lst us) := by
      intro l us ne h
      rcases e9 with rfl | rfl
      · exact h
      · rw [upd_ne ne]; exact h
    clear e9
    refine ⟨fun σ H' => ∃ o13, σ = [some (.ref a), some (.ref b), some (.ref lp), some (.ref hd), some (.ref ao), some (.ref oo), some (.ref bl), some vt, some (.ref dk), some (.int (0 + i)), some (.ref kt), some v, some (.str d.shown), o13] ∧ But b HA H' ∧ Bag H' b c ∧ H' dk = some (.dT kvs') ∧ ((∃ j, v = .int j) ∨ ∃ l us, v = .ref l ∧ H7 l = none ∧ H' l = some (.lst us) ∧ us.length ≤ 1000), ?_, ?_⟩
    · rcases ak with ⟨j, rfl, rfl, hj⟩ | ⟨l, us, rfl, nl, hl, lu, its, dp, sh⟩
      · refine ⟨_, rfl, _, _, .type "int", _, _, rfl, .ty _, .base (.int _), T.kit (by simp [tys]) (by simp [cls]), _, rfl, ?_⟩
        exact iteF_of (by simp [isk]) ⟨_, rfl, B9, g9, hk9, .inl ⟨j, rfl⟩⟩
      · have ldk : l ≠ dk := fun z => by rw [z, hk7] at nl; cases nl
        have hl9 := L89 l us ldk hl
        refine ⟨_, rfl, _, _, .type "list", _, _, rfl, .ty _, .base (.lst hl9), T.kit (by simp [tys]) (by simp [cls]), _, rfl, iteT_of (by simp [isk]) ⟨_, rfl, l, rfl, ⟨_, SqL.of hl9⟩, ?_⟩⟩
        refine for_list (K := K) (a := l) (xs := us) (fun j σ H' => But b HA H' ∧ Bag H' b c ∧ H' dk = some (.dT kvs') ∧ H' l = some (.lst us) ∧ (∀ u ∈ us, ItN (1000 + j) H7 l H' u) ∧ ∃ o13, σ = [some (.ref a), some (.ref b), some (.ref lp), some (.ref hd), some (.ref ao), some (.ref oo), some (.ref bl), some vt, some (.ref dk), some (.int (0 + i)), some (.ref kt), some (.ref l), some (.str d.shown), o13])
          ⟨B9, g9, hk9, hl9, fun u hu => ?_, _, rfl⟩ (fun j σ H' _ h => SqL.of h.2.2.2.1) ?_ ?_
        · rcases its u hu with h | h | h | h | ⟨t, xs, e, h⟩ | ⟨l2, ws, e, n2, ne2, h2, hk2⟩
          · exact .inl h
          · exact .inr (.inl h)
          · exact .inr (.inr (.inl h))
          · exact .inr (.inr (.inr (.inl h)))
          · exact .inr (.inr (.inr (.inr (.inl ⟨t, xs, e, T89 _ _ h⟩))))
          · exact .inr (.inr (.inr (.inr (.inr ⟨l2, ws, e, n2, ne2, L89 l2 ws (fun z => by rw [z, hk7] at n2; cases n2) h2, hk2⟩))))
        · rintro j u σ HX hj ⟨BX, gX, hkX, hlX, itX, o13, rfl⟩
          have hj2 := (List.getElem?_eq_some_iff.mp hj).1
          have next : (∀ u ∈ us, ItN (1000 + (j + 1)) H7 l HX u) := fun u hu => (itX u hu).up
          rcases itX u (List.mem_of_getElem? hj) with ⟨z, rfl⟩ | ⟨z, rfl⟩ | rfl | ⟨z, rfl⟩ | ⟨t, xs, rfl, ht⟩ | ⟨l2, ws, rfl, n2, ne2, h2, hk2⟩
          · exact ⟨_, rfl, _, rfl, .inr ⟨⟨.type "int", .base (.int _), by simp [tys], by simp [isk]⟩, BX, gX, hkX, hlX, next, _, rfl⟩⟩
          · exact ⟨_, rfl, _, rfl, .inr ⟨⟨.type "bool", .base (.bl _), by simp [tys], by simp [isk]⟩, BX, gX, hkX, hlX, next, _, rfl⟩⟩
          · exact ⟨_, rfl, _, rfl, .inr ⟨⟨.type "NoneType", .base .non, by simp [tys], by simp [isk]⟩, BX, gX, hkX, hlX, next, _, rfl⟩⟩
          · exact ⟨_, rfl, _, rfl, .inr ⟨⟨.type "str", .base (.str _), by simp [tys], by simp [isk]⟩, BX, gX, hkX, hlX, next, _, rfl⟩⟩
          · exact ⟨_, rfl, _, rfl, .inr ⟨⟨.type "tuple", .base (.tup ht), by simp [tys], by simp [isk]⟩, BX, gX, hkX, hlX, next, _, rfl⟩⟩
          · have n2A : HA l2 = none := But.free g7 B7 n2
            refine ⟨_, rfl, _, rfl, .inl ⟨l2, ws, rfl, h2, by omega, ?_⟩⟩
            refine ⟨BX.mut n2A, gX.put (g7.nb n2) (g7.nc n2), ?_, ?_, fun u hu => (itX u hu).upd h2 ?_, _, rfl⟩
            · rw [upd_ne (fun z => by rw [← z, hk7] at n2; cases n2)]; exact hkX
            · rw [upd_ne (Ne.symm ne2)]; exact hlX
            · rw [List.length_append, List.length_reverse]; show ws.length + 1 ≤ _; omega
        · rintro σ HX ⟨BX, gX, hkX, hlX, _, o13, rfl⟩
          exact ⟨_, rfl, BX, gX, hkX, .inr ⟨l, us, rfl, nl, hlX, lu⟩⟩
    rintro σ HY ⟨o13, rfl, BY, gY, hkY, hv_⟩
    rcases hv_ with ⟨j, rfl⟩ | ⟨l, us, rfl, nl, hl, lu⟩
    · exact ⟨_, rfl, _, rfl, .inr ⟨⟨.type "int", .base (.int _), by simp [tys], by simp [isk]⟩, BY, gY, kvs', _, _, _, _, _, hkY, lk', known', rfl⟩⟩
    · have ldk : l ≠ dk := fun z => by rw [z, hk7] at nl; cases nl
      refine ⟨_, rfl, _, rfl, .inl ⟨l, us, rfl, hl, by omega, BY.mut (But.free g7 B7 nl), gY.put (g7.nb nl) (g7.nc nl), kvs', _, _, _, _, _, ?_, lk', known', rfl⟩⟩
      rw [upd_ne (Ne.symm ldk)]; exact hkY
  · rintro σ H5 ⟨B5, g5_, kvs, o9, o10, o11, o12, o13, hk5, lk, known, rfl⟩
    refine ⟨dk, .dT kvs, hk5, trivial, fun od => ?_⟩
    have BL : But b HA (upd H5 dk (.frz od (.dT kvs))) := B5.mut ndk
    have hkL : upd H5 dk (.frz od (.dT kvs)) dk = some (.frz od (.dT kvs)) := upd_same
    generalize upd H5 dk (.frz od (.dT kvs)) = HL at BL hkL ⊢
    refine ⟨_, rfl, dk, od, rfl, .inr ⟨kvs, hkL, ?_⟩⟩
    refine for_it walk_keysT (fun i σ H' => Same HL H' ∧ ∃ o9 o10 o11 o12 o13, σ = [some (.ref a), some (.ref b), some (.ref lp), some (.ref hd), some (.ref ao), some (.ref oo), some (.ref bl), some vt, some (.ref dk), o9, o10, o11, o12, o13]) ⟨Same.refl _, _, _, _, _, _, rfl⟩ (fun i σ H' _ h => h.1 _ _ hkL) ?_ ?_
    · rintro i z σ HX HX' hi ⟨SX, o9, o10, o11, o12, o13, rfl⟩ ⟨rfl, k, v, kt, hki, rfl, hkt⟩
      have km := List.mem_of_getElem? hki
      obtain ⟨x, y, n, d, ek, hx, y0, y1, n40, an, ev⟩ := known _ km
      have ek : k = keyL x y n := ek
      subst ek
      have BX := BL.same SX
      obtain ⟨oX, eX, hoX⟩ := ask x BX hx
      obtain ⟨oks, s1_, s8_⟩ := lss x
      have hblX := BX _ _ blb hblA
      have hvX := hv.but gA BX
      refine ⟨_, rfl, _, rfl, kt, _, _, _, rfl, rfl, SqT.of hkt, rfl, bl, _, _, _, rfl, rfl, SqL.of hblX, eX, ?_⟩
      refine ⟨_, rfl, _, rfl, kt, _, _, _, rfl, rfl, SqT.of hkt, rfl, _, rfl, kt, _, _, _, rfl, rfl, SqT.of hkt, rfl, ?_⟩
      refine ⟨oX, _, vt, w1, s, w2, f, y, n, rfl, hoX, oks, s1_, s8_, hvX, ok, y0, y1, n40, fun v' d' H' S' an' ak => ?_⟩
      have := ans_one an an'
      subst this
      obtain ⟨v2, hv2⟩ := valV_some km
      obtain ⟨x2, y2, n2, d2, ek2, _, _, _, _, an2, ev2⟩ := known _ (valV_mem hv2)
      obtain ⟨rfl, rfl, rfl⟩ := keyL_inj ek2
      have := ans_one an an2
      subst this
      have ev2 : v2 = .str d.shown := ev2
      subst ev2
      have hk' := S' _ _ (SX _ _ hkL)
      have hkt' := S' _ _ hkt
      have rest : DGet H' dk (.ref kt) (some (.str d.shown)) := .inr ⟨kvs, keyL x y n, kt, .inr ⟨od, hk'⟩, rfl, hkt', hv2.symm⟩
      rcases ak with ⟨j, rfl, rfl, hj⟩ | ⟨l, us, rfl, _, _, _, _, dp, sh⟩
      · exact .inr ⟨j, rfl, hj, _, rfl, _, rfl, dk, _, rfl, rest, rfl, _, rfl, iteF_of (by rw [decide_eq_true rfl]; rfl) ⟨SX.trans S', _, _, _, _, _, rfl⟩⟩
      · exact .inl ⟨l, d, rfl, dp, sh.a, sh.b, sh.c, sh.d, _, rfl, _, rfl, dk, _, rfl, rest, rfl, _, rfl, iteF_of (by rw [decide_eq_true rfl]; rfl) ⟨SX.trans S', _, _, _, _, _, rfl⟩⟩
    · rintro σ HX ⟨SX, o9, o10, o11, o12, o13, rfl⟩
      exact ⟨SX _ _ hkL, q _⟩
end
end WH

set_option maxHeartbeats 0
namespace WH
open PySem PySem.Spec PyProof.Rows L2
/-! ### the head -/
def loose0 : List PySem.Str := ["_wall", "WaneError", "Wrong", "TooMany", "NoNumber", "NotOne", "MOST_STRENGTH", "MOST_MOMENT", "LONGEST_ROW", "is_whole", "is_within", "is_strength", "is_size", "is_moment", "is_row", "is_step", "LONGEST_HEAD", "TAILS", "is_head", "is_tail"]
def loose1 : List PySem.Str := ["Wane", "turn_effect", "join_two", "row_effect", "effect_of", "MOST_PARTS", "THERE", "is_seen", "is_part", "cut", "span_of", "width", "Origins", "check_part", "turned", "asked", "waned", "lifted", "MOST_PAIRS", "SIGNS"]
def loose2 : List PySem.Str := ["need_asked", "led", "alike", "_law_bag", "_law_take", "_law_alike", "_law_steps", "_law_plan", "_law_made", "_law_number", "_law_signs", "_law_two", "_law_long", "_law_told", "_law_parts", "_law_spoilt", "_law_asked"]
def loose : List PySem.Str := loose0 ++ loose1 ++ loose2
abbrev R : PySem.W.OpenRow := PySem.W.OpenLaw.row PySem.Challenge.rw_wanehold_k79_origins_alike_again
def exA (K : PySem.W.Frag) : Bool := exL.all fun f => f K
abbrev hkX : PySem.W.Hook := HS.hookS 5 faL fnL exA
def obX (s : PySem.W.SharedT) : HS.AlS := HS.obsS 5 faL fnL exA (HandSHeadRun.getT s)
theorem obX_eq (s : PySem.W.SharedT) : obX s = hkX.obs s.abs := HS.obsS_eq (HandSHeadRun.getT_eq s)
theorem runX (w : World) : HandSHeadRun.RunEq R (PySem.W.view R.prog [65]) hkX obX 4000 loose w := by
  intro os
  kernel_rfl
theorem factsX {P : Program} {w : World} {K : PySem.W.Frag} {h : Heap} {mg : Str → Option Value} {f : Addr} (X : K.In h) (G : h.Ns mainGlobals mg) (hfa : mg ("law" : Str) = some (.ref f)) (c : HS.SaysS faL fnL exA K) :
    ∃ fd : FuncData, (∀ (s : Shared) (v : Value), BindsTo s fd ⟨[v], []⟩ [("_law_script", v)]) ∧ ∀ base : Heap, K.In base → base.Ns mainGlobals mg → GL.FnG P w K mg base C8.CX0 11 f fd ["_law_script"] (spLaw K) := by
  have T : Txt K mg := ⟨fun i d hd => c.1.def_ i hd, fun i f hf => c.1.fact i hf, ⟨h, X, G⟩, fun i f hf => List.all_eq_true.mp (show (exL.all fun f => f K) = true from c.2) f (List.mem_of_getElem? hf)⟩
  obtain ⟨fd, F⟩ := T.f_law
  have e := hfa.symm.trans T.g_law
  cases e
  have b := FunD.bindsA (ps := ["_law_script"]) F fun _ _ _ _ _ _ us hl => match us, hl with | [_], _ => rfl
  exact ⟨fd, fun s v => b s [v] rfl, fun base _ _ => fn_law T F⟩
end WH
open PySem PySem.W PySem.Calls PyProof.Rows
theorem PySem.Challenge.cw_wanehold_k79_origins_alike_again_holds : PySem.Challenge.rw_wanehold_k79_origins_alike_again.Holds := by
  w_on; o_law
  refine HandSHeadRun.head_any (r := OpenLaw.row PySem.Challenge.rw_wanehold_k79_origins_alike_again) (q := view (OpenLaw.row PySem.Challenge.rw_wanehold_k79_origins_alike_again).prog [65]) (H := WH.hkX) (ob := WH.obX) (M := 4000) (loose := WH.loose) (d := HandSHeadRun.topDef (OpenLaw.row PySem.Challenge.rw_wanehold_k79_origins_alike_again).prog 65) (kwd := []) WH.obX_eq
    (by kernel_rfl) (fun s => by kernel_rfl) WH.runX (by kernel_rfl) (by kernel_rfl) (by kernel_rfl) (by rfl) (by first | assumption | decide +kernel) (by decide +kernel) ⟨rfl, rfl, rfl, rfl, rfl, by decide +kernel⟩ ?hw ?hc
  case hw => w_witness2
  case hc =>
    refine GL.walk_G (l := PySem.Challenge.rw_wanehold_k79_origins_alike_again) (n := 63) (k := 11) (x := "_law_script") (CX := C8.CX0) rfl (by decide) (by kernel_rfl) ⟨rfl, by decide, by decide⟩ ?F (fun _ _ _ _ z => z)
    intro w mg fa h Y G hmg0
    obtain ⟨K, KX, c⟩ := Y
    have hmg : mg ("law" : PySem.Str) = some (.ref fa) := by
      have e : (HandSHeadRun.topDef (OpenLaw.row PySem.Challenge.rw_wanehold_k79_origins_alike_again).prog 65).name = ("law" : PySem.Str) := by kernel_rfl
      rw [← e]
      exact hmg0
    obtain ⟨fd, hb, hF⟩ := WH.factsX (P := (PySem.Challenge.rw_wanehold_k79_origins_alike_again).prog) (w := w) KX G hmg c
    exact ⟨K, fd, WH.spLaw K, KX, hb, fun H a ns hl _ hS => ⟨a, ns, rfl, hS, fun _ => rfl⟩, hF⟩


